import PyProof.Rows.All
import PyProof.Raises
import PyProof.Calls
import PyProof.RulesTry
import PyProof.AssignAttr
import PyProof.FactsAll.list_3
import PyProof.FactsAll.list_4
import PyProof.FactsAll.dict_3
import PyProof.FactsAll.dict_4
import PyProof.AutoIntOps
import PyProof.AutoListH
import PyProof.AutoSeq1
import PyProof.SliceSyntax
import PyProof.SliceList
import PyProof.ForAny
import PyProof.CallType
import PyProof.Cells
import PyProof.CompMap
import PyProof.PlainList
import PyProof.ConsumeWalk
import PyProof.CompFree
import PyProof.Conv_int_bool
import PyProof.DefCall
import PyProof.MeetsSeq
import PyProof.MeetsIn
import PyProof.DictKinds
import PyProof.DictRoads
import PyProof.DictStraight
import PyProof.DictUpdate
import PyProof.DictTable
import PyProof.EnumFor
import PyProof.EnumMake
import PyProof.EqKinds
import PyProof.ExcQuiet
import PyProof.ExcArgsOwn
import PyProof.ExcBaseAll.ValueError
import PyProof.ExcClass3
import PyProof.ExcInit
import PyProof.RaisesMany
import PyProof.StationsW
import PyProof.RangeIter
import PyProof.WalksMore
import PyProof.RangeFor
import PyProof.ForRange
import PyProof.IsiHeapPairs
import PyProof.IsiNone
import PyProof.IsiPairs
import PyProof.LetGo
import PyProof.ListCopy
import PyProof.ListMulRoad
import PyProof.ListRange
import PyProof.ListTruth
import PyProof.WalkInts
import PyProof.RulesAs
import PyProof.P3In
import PyProof.Rows.News
import PyProof.Rows.TupAssign
import PyProof.Rows.TupSub
import PyProof.Rows.Lst
import PyProof.Rows.IntRules
import PyProof.Rows.AttrNodeAny
import PyProof.Rows.Chain
import PyProof.Rows.Nodes
import PyProof.Rows.RuleU_int
import PyProof.Rows.RuleB_mul
import PyProof.Rows.RuleB_floordiv
import PyProof.Rows.RuleB_mod
import PyProof.Rows.SeqSlice
import PyProof.Rows.Method
import PyProof.Rows.StrTemp
import PyProof.Rows.ListMul
import PyProof.Rows.RuleC_int
import PyProof.Rows.RuleIs
import PyProof.Rows.TupMore
import PyProof.SliceMore
import PyProof.Rows.StrRules
import PyProof.Rows.EqDataRows
import PyProof.Rows.InDataRows
import PyProof.Rows.SeqMore
import PyProof.Rows.MinMaxN
import PyProof.TupleOfSeq
import OpenK.KMake
import OpenK.KCls
import OpenK.KWalk
import OpenK.KCell
import KE.KItem
import KE.KListMore
import KE.KIsAll
import KE.KRevIter
import KE.KTryMore
import Wide.All
import OpenK.AllK
import Wide.FinOn
import Lean
import PySem.Challenge.RW_uf060008_11

set_option Elab.async false
set_option linter.unusedVariables false
namespace Mine
open PySem

inductive V where
  | none
  | bool (b : Bool)
  | int (i : Int)
  | str (s : Str)
  | tup (l : List V)
  | lst (l : List V)
  | ref (a : Addr)
  | con (v : Value)
  deriving Inhabited

inductive O where
  | list (l : List V)
  | dictI (m : Int → Option V) (n : Nat)
  | dictS (m : Str → Option V) (n : Nat)
  | inst (c d : Addr)
  | ns (m : Str → Option V) (n : Nat)
  | exc (c : Addr) (d T : Option Addr)
  | tb (fl : Option Addr)

abbrev Hp := Addr → Option O
abbrev Rho := Str → Option V
noncomputable def Hp.set (H : Hp) (a : Addr) (o : O) : Hp := fun b => if b = a then some o else H b
noncomputable def Hp.del (H : Hp) (a : Addr) : Hp := fun b => if b = a then none else H b
noncomputable def Rho.set (ρ : Rho) (x : Str) (v : V) : Rho := fun y => if y = x then some v else ρ y

mutual
inductive VRel (h : Heap) (H : Hp) : V → Value → Prop
  | none : VRel h H .none .none
  | bool (b : Bool) : VRel h H (.bool b) (.bool b)
  | int (i : Int) (t : Tok) : VRel h H (.int i) (.int i t)
  | str (s : Str) (t : Tok) : VRel h H (.str s) (.str s t)
  | tup {a : Addr} {l : List V} {xs : Array Value} (ha : h.IsTuple a xs) (ho : H a = none) (hl : VRelL h H l xs.toList) : VRel h H (.tup l) (.ref a)
  | lst {a : Addr} {l : List V} {xs : Array Value} (ha : h.IsList a xs) (ho : H a = none) (hl : VRelL h H l xs.toList) : VRel h H (.lst l) (.ref a)
  | ref (a : Addr) : VRel h H (.ref a) (.ref a)
  | con (v : Value) : VRel h H (.con v) v
inductive VRelL (h : Heap) (H : Hp) : List V → List Value → Prop
  | nil : VRelL h H [] []
  | cons {v : V} {x : Value} {l : List V} {xs : List Value} (hv : VRel h H v x) (hl : VRelL h H l xs) : VRelL h H (v :: l) (x :: xs)
end

noncomputable def UpS (o : Obj) (h' : Heap) (a : Addr) : Prop := ∃ sl, h'.get? a = some { o with slots := sl } ∧ ((∀ es n, o.data ≠ .dict es n) → sl = o.slots)
theorem UpS.of {o : Obj} {h' : Heap} {a : Addr} (e : h'.get? a = some o) : UpS o h' a := ⟨o.slots, e, fun _ => rfl⟩
theorem UpS.trans {o : Obj} {h' h'' : Heap} {a : Addr} (x : UpS o h' a) (y : ∀ o', h'.get? a = some o' → UpS o' h'' a) : UpS o h'' a :=
  let ⟨sl, e, d⟩ := x; let ⟨sl', e', d'⟩ := y _ e; ⟨sl', e', fun n => (d' n).trans (d n)⟩
theorem UpS.exact {o : Obj} {h' : Heap} {a : Addr} (x : UpS o h' a) (n : ∀ es n, o.data ≠ .dict es n) : h'.get? a = some o := by
  obtain ⟨sl, e, d⟩ := x
  rw [d n] at e; exact e
structure Ext (H : Hp) (h : Heap) (H' : Hp) (h' : Heap) : Prop where
  keep : ∀ a o, h.get? a = some o → H a = none → UpS o h' a
  grow : ∀ a o, h.get? a = some o → H a = none → H' a = none
  live : ∀ a o, h.get? a = some o → ∃ o', h'.get? a = some o'

theorem Ext.refl (H : Hp) (h : Heap) : Ext H h H h := ⟨fun _ _ e _ => .of e, fun _ _ _ e => e, fun _ o e => ⟨o, e⟩⟩
theorem Ext.trans {H h H' h' H'' h''} (x : Ext H h H' h') (y : Ext H' h' H'' h'') : Ext H h H'' h'' :=
  ⟨fun a o e n => (x.keep a o e n).trans fun o' e' => y.keep a o' e' (x.grow a o e n), fun a o e n => let ⟨_, e', _⟩ := x.keep a o e n; y.grow a _ e' (x.grow a o e n), fun a o e => let ⟨o', e'⟩ := x.live a o e; y.live a o' e'⟩

noncomputable def ExtV (H : Hp) (h : Heap) (H' : Hp) (h' : Heap) : Prop :=
  ∀ a o xs n, h.get? a = some o → o.data = .seq xs n → H a = none → UpS o h' a ∧ H' a = none
theorem Ext.v {H h H' h'} (E : Ext H h H' h') : ExtV H h H' h' := fun a o _ _ e _ n => ⟨E.keep a o e n, E.grow a o e n⟩
theorem ExtV.but {H : Hp} {h h' : Heap} {b : Addr} {ob : Obj} (hb : h.get? b = some ob) (nb : ∀ xs n, ob.data ≠ .seq xs n) (e : ∀ a o, a ≠ b → h.get? a = some o → h'.get? a = some o) : ExtV H h H h' :=
  fun a o xs n ea d m => ⟨.of (e a o (fun q => by subst q; rw [hb] at ea; cases ea; exact nb _ _ d) ea), m⟩

mutual
theorem VRel.extV {H h H' h'} (E : ExtV H h H' h') : ∀ {v x}, VRel h H v x → VRel h' H' v x
  | _, _, .none => .none
  | _, _, .bool b => .bool b
  | _, _, .int i t => .int i t
  | _, _, .str i t => .str i t
  | _, _, .tup ha ho hl => .tup (let ⟨o, e, c, n, r⟩ := ha; let ⟨_, e', _⟩ := (E _ _ _ _ e r ho).1; ⟨_, e', c, n, r⟩) (let ⟨o, e, c, n, r⟩ := ha; (E _ _ _ _ e r ho).2) (VRelL.extV E hl)
  | _, _, .lst ha ho hl => .lst (let ⟨o, e, c, n, r⟩ := ha; let ⟨_, e', _⟩ := (E _ _ _ _ e r ho).1; ⟨_, e', c, n, r⟩) (let ⟨o, e, c, n, r⟩ := ha; (E _ _ _ _ e r ho).2) (VRelL.extV E hl)
  | _, _, .ref a => .ref a
  | _, _, .con v => .con v
theorem VRelL.extV {H h H' h'} (E : ExtV H h H' h') : ∀ {v x}, VRelL h H v x → VRelL h' H' v x
  | _, _, .nil => .nil
  | _, _, .cons hv hl => .cons (hv.extV E) (VRelL.extV E hl)
end
theorem VRel.ext {H h H' h'} (E : Ext H h H' h') {v x} (r : VRel h H v x) : VRel h' H' v x := r.extV E.v
theorem VRelL.ext {H h H' h'} (E : Ext H h H' h') {v x} (r : VRelL h H v x) : VRelL h' H' v x := r.extV E.v
theorem VRelL.length {h H} : ∀ {l xs}, VRelL h H l xs → xs.length = l.length
  | _, _, .nil => rfl
  | _, _, .cons _ hl => by simp [hl.length]
theorem VRelL.append {h H} : ∀ {l xs l' xs'}, VRelL h H l xs → VRelL h H l' xs' → VRelL h H (l ++ l') (xs ++ xs')
  | _, _, _, _, .nil, y => y
  | _, _, _, _, .cons hv hl, y => .cons hv (hl.append y)
theorem VRelL.get {h H} : ∀ {l xs} {i : Nat} {v : V}, VRelL h H l xs → l[i]? = some v → ∃ x, xs[i]? = some x ∧ VRel h H v x
  | _, _, i, v, .nil, e => by simp at e
  | _, _, 0, v, .cons hv hl, e => by simp at e; subst e; exact ⟨_, rfl, hv⟩
  | _, _, i + 1, v, .cons hv hl, e => by simp at e; simpa using hl.get e
theorem VRelL.set {h H} : ∀ {l xs} {i : Nat} {v : V} {x : Value}, VRelL h H l xs → VRel h H v x → VRelL h H (l.set i v) (xs.set i x)
  | _, _, i, v, x, .nil, _ => .nil
  | _, _, 0, v, x, .cons hv hl, r => .cons r hl
  | _, _, i + 1, v, x, .cons hv hl, r => .cons hv (hl.set r)
theorem VRelL.take {h H} : ∀ {l xs} (i : Nat), VRelL h H l xs → VRelL h H (l.take i) (xs.take i)
  | _, _, 0, _ => by simp; exact .nil
  | _, _, i + 1, .nil => by simp; exact .nil
  | _, _, i + 1, .cons hv hl => .cons hv (hl.take i)
theorem VRelL.drop {h H} : ∀ {l xs} (i : Nat), VRelL h H l xs → VRelL h H (l.drop i) (xs.drop i)
  | _, _, 0, x => x
  | _, _, i + 1, .nil => by simp; exact .nil
  | _, _, i + 1, .cons hv hl => hl.drop i
structure Cx where
  prog : Program
  w : World
  base : Heap
  os : OsState
  hd : Bool
  low : ∃ o, base.get? cStatics = some o
  frs : Option (List Env)

noncomputable def FrOK (C : Cx) (H : Hp) (h : Heap) : Prop := ∀ l, C.frs = some l → ∀ env ∈ l, env.scope.kind ≠ .module ∧ ∃ L o, env.frame = some L ∧ C.base.get? L = none ∧ H L = none ∧ h.get? L = some o ∧ ∃ es ep, o.data = .dict es ep

noncomputable abbrev Cx.M (C : Cx) : Model := model C.prog C.w

noncomputable def OptRel (h : Heap) (H : Hp) : Option V → Option Value → Prop
  | some v, some x => VRel h H v x
  | none, none => True
  | _, _ => False
theorem OptRel.extV {H h H' h'} (E : ExtV H h H' h') : ∀ {v x}, OptRel h H v x → OptRel h' H' v x
  | some _, some _, r => VRel.extV E r
  | none, none, _ => trivial

noncomputable def ORel (C : Cx) (h : Heap) (H : Hp) (a : Addr) : O → Prop
  | .list l => ∃ xs, h.PlainList a xs ∧ VRelL h H l xs.toList
  | .dictI m n => ∃ kvs, h.DictOf (intKind C.prog C.w) a kvs ∧ kvs.length ≤ n ∧ ∀ k, OptRel h H (m k) (valueAt kvs k)
  | .dictS m n => ∃ kvs, h.DictOf (strKind C.prog C.w) a kvs ∧ kvs.length ≤ n ∧ ∀ k, OptRel h H (m k) (valueAt kvs k)
  | .inst c d => h.get? a = some { cls := .ref c, dict := some d, data := .plain }
  | .ns m n => ∃ o es ep, h.get? a = some o ∧ o.data = .dict es ep ∧ StrKeys es ∧ es.size ≤ n ∧ ∀ k, OptRel h H (m k) (nsFind es k)
  | .exc c d T => ∃ o vs, h.get? a = some o ∧ o.cls = .ref c ∧ o.dict = d ∧ o.data = .fields vs ∧ 5 < vs.size ∧ vs[1]? = some (T.elim .none .ref)
  | .tb fl => ∃ o vs, h.get? a = some o ∧ o.data = .fields vs ∧ vs[3]? = some (fl.elim .none fun L => rawInt L)

structure Sim (C : Cx) (H : Hp) (s : Shared) : Prop where
  keep : ∀ b o, C.base.get? b = some o → s.heap.get? b = some o
  gens : s.gens = #[]
  os : s.os = C.os
  objs : ∀ a o, H a = some o → ORel C s.heap H a o
  new : ∀ a, H a ≠ none → C.base.get? a = none ∧ a ≠ sysModules
  frs : FrOK C H s.heap

theorem ORel.lt {C h H a o} (r : ORel C h H a o) : ∃ ob, h.get? a = some ob := by
  cases o with
  | list l => obtain ⟨xs, ⟨n, e⟩, _⟩ := r; exact ⟨_, e⟩
  | dictI m n => obtain ⟨f, ⟨o, es, ep, e, _⟩, _⟩ := r; exact ⟨o, e⟩
  | dictS m n => obtain ⟨f, ⟨o, es, ep, e, _⟩, _⟩ := r; exact ⟨o, e⟩
  | inst c d => exact ⟨_, r⟩
  | ns m n => obtain ⟨o, es, ep, e, _⟩ := r; exact ⟨o, e⟩
  | exc c d T => obtain ⟨o, vs, e, _⟩ := r; exact ⟨o, e⟩
  | tb fl => obtain ⟨o, vs, e, _⟩ := r; exact ⟨o, e⟩

theorem ORel.same {C h H h' H' a o} (r : ORel C h H a o) (E : ExtV H h H' h') (e : h'.get? a = h.get? a) : ORel C h' H' a o := by
  cases o with
  | list l => obtain ⟨xs, ⟨o, e1⟩, r2⟩ := r; exact ⟨xs, ⟨o, e.trans e1⟩, r2.extV E⟩
  | dictI m n =>
    obtain ⟨f, ⟨o, es, ep, e1, r1⟩, d, r2⟩ := r
    exact ⟨f, ⟨o, es, ep, e.trans e1, r1⟩, d, fun k => (r2 k).extV E⟩
  | dictS m n =>
    obtain ⟨f, ⟨o, es, ep, e1, r1⟩, d, r2⟩ := r
    exact ⟨f, ⟨o, es, ep, e.trans e1, r1⟩, d, fun k => (r2 k).extV E⟩
  | inst c d => exact e.trans r
  | ns m n =>
    obtain ⟨o, es, ep, e1, r1, r3, d, r2⟩ := r
    exact ⟨o, es, ep, e.trans e1, r1, r3, d, fun k => (r2 k).extV E⟩
  | exc c d T => obtain ⟨o, vs, e1, r1⟩ := r; exact ⟨o, vs, e.trans e1, r1⟩
  | tb fl => obtain ⟨o, vs, e1, r1⟩ := r; exact ⟨o, vs, e.trans e1, r1⟩
theorem FrOK.same {C : Cx} {H H' : Hp} {h h' : Heap} (F : FrOK C H h) (k : ∀ L o es ep, h.get? L = some o → H L = none → o.data = .dict es ep → H' L = none ∧ ∃ o' es' ep', h'.get? L = some o' ∧ o'.data = .dict es' ep') : FrOK C H' h' := fun l e env m => by
  obtain ⟨q, L, o, e1, e2, e3, e4, es, ep, e5⟩ := F l e env m
  obtain ⟨n, o', es', ep', e6, e7⟩ := k L o es ep e4 e3 e5
  exact ⟨q, L, o', e1, e2, n, e6, es', ep', e7⟩
theorem FrOK.keep {C : Cx} {H H' : Hp} {h h' : Heap} (F : FrOK C H h) (k : ∀ L o es ep, h.get? L = some o → H L = none → o.data = .dict es ep → H' L = none ∧ h'.get? L = some o) : FrOK C H' h' := F.same fun L o es ep e n d => ⟨(k L o es ep e n d).1, o, es, ep, (k L o es ep e n d).2, d⟩

structure Frm (C : Cx) (H : Hp) (env : Env) (m cm : Str → Option Value) (h : Heap) : Prop where
  ns : h.Ns env.locals m
  cell : ∀ n c, env.cells.lookup n = some c → h.IsCell c (cm n)
  own : H env.locals = none
  ownc : ∀ n c, env.cells.lookup n = some c → H c = none
  above : C.base.get? env.locals = none
  abovec : ∀ n c, env.cells.lookup n = some c → C.base.get? c = none
  apart : ∀ n n' c, env.cells.lookup n = some c → env.cells.lookup n' = some c → n = n'

noncomputable def LocRel (h : Heap) (H : Hp) (env : Env) (m cm : Str → Option Value) (x : Str) (v : V) : Prop :=
  match env.kindOf x with
  | some .local => ∃ u, m x = some u ∧ VRel h H v u
  | some .cell | some .free => ∃ u c, env.cells.lookup x = some c ∧ cm x = some u ∧ VRel h H v u
  | _ => True

structure SimL (C : Cx) (env : Env) (ρ : Rho) (H : Hp) (s : Shared) : Prop where
  sim : Sim C H s
  kind : env.scope.kind = .function
  globals : env.globals = mainGlobals
  builtins : env.builtins = builtinsNs
  frm : ∃ m cm, Frm C H env m cm s.heap ∧ ∀ x v, ρ x = some v → LocRel s.heap H env m cm x v

theorem LocRel.extV {H h H' h' env m cm x v} (E : ExtV H h H' h') (r : LocRel h H env m cm x v) : LocRel h' H' env m cm x v := by
  unfold LocRel at *
  split at r
  · obtain ⟨u, a, b⟩ := r; exact ⟨u, a, b.extV E⟩
  · obtain ⟨u, c, a, b, d⟩ := r; exact ⟨u, c, a, b, d.extV E⟩
  · obtain ⟨u, c, a, b, d⟩ := r; exact ⟨u, c, a, b, d.extV E⟩
  · trivial

theorem Frm.ext {C H h H' h' env m cm} (E : Ext H h H' h') (F : Frm C H env m cm h) : Frm C H' env m cm h' := by
  obtain ⟨oL, es, ep, eL, rL⟩ := F.ns
  obtain ⟨sl, eL', _⟩ := E.keep _ _ eL F.own
  refine ⟨⟨_, es, ep, eL', rL⟩, fun n c e => ?_, E.grow _ _ eL F.own, fun n c e => ?_, F.above, F.abovec, F.apart⟩
  · obtain ⟨o, e1, r1⟩ := F.cell n c e
    obtain ⟨sl, e2, _⟩ := E.keep _ _ e1 (F.ownc n c e)
    exact ⟨_, e2, r1⟩
  · obtain ⟨o, e1, r1⟩ := F.cell n c e; exact E.grow _ _ e1 (F.ownc n c e)

theorem SimL.ext {C env ρ H s H' s'} (S : SimL C env ρ H s) (S' : Sim C H' s') (E : Ext H s.heap H' s'.heap) : SimL C env ρ H' s' := by
  obtain ⟨m, cm, F, r⟩ := S.frm
  exact ⟨S', S.kind, S.globals, S.builtins, m, cm, F.ext E, fun x v e => (r x v e).extV E.v⟩

structure ExtF (env : Env) (H : Hp) (h : Heap) (H' : Hp) (h' : Heap) : Prop where
  keep : ∀ a o, h.get? a = some o → H a = none → a ≠ env.locals → (∀ n, env.cells.lookup n ≠ some a) → UpS o h' a
  grow : ∀ a o, h.get? a = some o → H a = none → H' a = none
  live : ∀ a o, h.get? a = some o → ∃ o', h'.get? a = some o'

theorem Ext.toF {env H h H' h'} (x : Ext H h H' h') : ExtF env H h H' h' := ⟨fun a o e n _ _ => x.keep a o e n, x.grow, x.live⟩
theorem ExtF.refl (env : Env) (H : Hp) (h : Heap) : ExtF env H h H h := (Ext.refl H h).toF
theorem ExtF.trans {env H h H' h' H'' h''} (x : ExtF env H h H' h') (y : ExtF env H' h' H'' h'') : ExtF env H h H'' h'' := by
  refine ⟨fun a o e n n1 n2 => (x.keep a o e n n1 n2).trans fun o' e' => y.keep a o' e' (x.grow a o e n) n1 n2, fun a o e n => ?_, fun a o e => ?_⟩
  · obtain ⟨o', e'⟩ := x.live a o e; exact y.grow a o' e' (x.grow a o e n)
  · obtain ⟨o', e'⟩ := x.live a o e; exact y.live a o' e'

noncomputable def Post {α β : Type} (C : Cx) (H : Hp) (h : Heap) (rel : Heap → Hp → β → α → Prop) (Q : β → Hp → Prop) : α → Shared → Prop :=
  fun x s' => ∃ v H', Q v H' ∧ Sim C H' s' ∧ rel s'.heap H' v x ∧ Ext H h H' s'.heap

theorem Post.after {α β : Type} {C : Cx} {H H₁ : Hp} {h h₁ : Heap} {rel : Heap → Hp → β → α → Prop} {Q : β → Hp → Prop} (E : Ext H h H₁ h₁) {x : α} {s' : Shared} (p : Post C H₁ h₁ rel Q x s') : Post C H h rel Q x s' :=
  let ⟨v, H', q, S, r, E'⟩ := p; ⟨v, H', q, S, r, E.trans E'⟩

structure Lv (C : Cx) (k : Nat) (A : Around) : Prop where
  handled : C.hd = true → A.handled = none
  depth : A.depth + 2 * k + 100 < recursionLimit
  units : A.units + 40 * k + 100 < cLine
  frames : ∀ l, C.frs = some l → A.frames = some l

noncomputable def BRel (_ : Heap) (_ : Hp) (b x : Bool) : Prop := b = x

noncomputable def EvalW (C : Cx) (k : Nat) (env : Env) (e : Expr) (Q R : V → Hp → Prop) (ρ : Rho) (H : Hp) : Prop :=
  ∀ A, Lv C k A → ∀ s, SimL C env ρ H s → wpAny C.M A (eval e env) (Post C H s.heap VRel Q) (Post C H s.heap VRel R) s
noncomputable def TestW (C : Cx) (k : Nat) (env : Env) (e : Expr) (Q : Bool → Hp → Prop) (R : V → Hp → Prop) (ρ : Rho) (H : Hp) : Prop :=
  ∀ A, Lv C k A → ∀ s, SimL C env ρ H s → wpAny C.M A (isTrue e env (eval e env)) (Post C H s.heap BRel Q) (Post C H s.heap VRel R) s
noncomputable def BinW (C : Cx) (k : Nat) (op : Operator) (v w : V) (Q R : V → Hp → Prop) (H : Hp) : Prop :=
  ∀ A, Lv C k A → ∀ s x y, Sim C H s → VRel s.heap H v x → VRel s.heap H w y → wpAny C.M A (binaryOp op x y) (Post C H s.heap VRel Q) (Post C H s.heap VRel R) s
noncomputable def CmpW (C : Cx) (k : Nat) (op : CmpOp) (v w : V) (Q R : V → Hp → Prop) (H : Hp) : Prop :=
  ∀ A, Lv C k A → ∀ s x y, Sim C H s → VRel s.heap H v x → VRel s.heap H w y → wpAny C.M A (compareOp op x y) (Post C H s.heap VRel Q) (Post C H s.heap VRel R) s
noncomputable def TruthW (C : Cx) (k : Nat) (v : V) (Q : Bool → Hp → Prop) (R : V → Hp → Prop) (H : Hp) : Prop :=
  ∀ A, Lv C k A → ∀ s x, Sim C H s → VRel s.heap H v x → wpAny C.M A (truthy x) (Post C H s.heap BRel Q) (Post C H s.heap VRel R) s
noncomputable def CallW (C : Cx) (k : Nat) (f : Value) (args : List V) (Q R : V → Hp → Prop) (H : Hp) : Prop :=
  ∀ A, Lv C k A → ∀ s xs, Sim C H s → VRelL s.heap H args xs → wpAny C.M A (call f xs) (Post C H s.heap VRel Q) (Post C H s.heap VRel R) s

end Mine

set_option Elab.async false
set_option linter.unusedVariables false
namespace Mine
open PySem PyProof.Rows

theorem Sim.toks {C H s} (S : Sim C H s) (t : Nat) : Sim C H { s with toks := t } := ⟨S.keep, S.gens, S.os, S.objs, S.new, S.frs⟩
theorem SimL.toks {C env ρ H s} (S : SimL C env ρ H s) (t : Nat) : SimL C env ρ H { s with toks := t } := ⟨S.sim.toks t, S.kind, S.globals, S.builtins, S.frm⟩

theorem Post.here {α β : Type} {C : Cx} {H : Hp} {h : Heap} {rel : Heap → Hp → β → α → Prop} {Q : β → Hp → Prop} {x : α} {v : β} {s' : Shared}
    (q : Q v H) (S : Sim C H s') (r : rel s'.heap H v x) (e : s'.heap = h) : Post C H h rel Q x s' := ⟨v, H, q, S, r, e ▸ Ext.refl _ _⟩

variable {C : Cx} {k : Nat} {env : Env} {ρ : Rho} {H : Hp} {Q R : V → Hp → Prop} {QB : Bool → Hp → Prop}

theorem EvalW.none {c p} (h : Q .none H) : EvalW C k env (.Constant .none c p) Q R ρ H :=
  fun _ _ _ S => wpAny_pure (Post.here h S.sim .none rfl)
theorem EvalW.bool {b c p} (h : Q (.bool b) H) : EvalW C k env (.Constant (.bool b) c p) Q R ρ H :=
  fun _ _ _ S => wpAny_pure (Post.here h S.sim (.bool b) rfl)
theorem EvalW.int {i c p} (h : Q (.int i) H) : EvalW C k env (.Constant (.int i) c p) Q R ρ H :=
  fun _ _ _ S => wpAny_Constant_int (Post.here h (S.toks _).sim (.int i _) rfl)
theorem EvalW.str {x c p} (h : Q (.str x) H) : EvalW C k env (.Constant (.str x) c p) Q R ρ H :=
  fun _ _ _ S => wpAny_mkText (Post.here h (S.toks _).sim (.str x _) rfl)

theorem EvalW.local_ {x p v} (hv : ρ x = some v) (h : Q v H) (hk : env.kindOf x = some .local) (hd : (x == ("__debug__" : Str)) = false := by decide) :
    EvalW C k env (.Name x p) Q R ρ H := fun _ _ s S => by
  obtain ⟨m, cm, F, r⟩ := S.frm
  have := r x v hv
  unfold LocRel at this
  rw [hk] at this
  obtain ⟨u, hm, ru⟩ := this
  exact wpAny_Name (wpAny_loadName_local S.kind hk F.ns hm (Post.here h S.sim ru rfl)) hd
theorem EvalW.cell {x p v} (hv : ρ x = some v) (h : Q v H) (hk : env.kindOf x = some .cell) (hd : (x == ("__debug__" : Str)) = false := by decide) :
    EvalW C k env (.Name x p) Q R ρ H := fun _ _ s S => by
  obtain ⟨m, cm, F, r⟩ := S.frm
  have := r x v hv
  unfold LocRel at this
  rw [hk] at this
  obtain ⟨u, c, hc, hm, ru⟩ := this
  exact wpAny_Name (wpAny_loadName_cell S.kind hk hc (hm ▸ F.cell x c hc) (Post.here h S.sim ru rfl)) hd
noncomputable def GlobalIs (C : Cx) (x : Str) (v : Value) : Prop :=
  (∃ mg, C.base.Ns mainGlobals mg ∧ mg x = some v) ∨ (∃ mg mb, C.base.Ns mainGlobals mg ∧ mg x = none ∧ C.base.Ns builtinsNs mb ∧ mb x = some v)
noncomputable def GlobalV (C : Cx) (x : Str) (v : V) : Prop := ∃ u, GlobalIs C x u ∧ ∀ h H, VRel h H v u
theorem EvalW.global {x p v} (g : GlobalV C x v) (h : Q v H) (hk : env.kindOf x = some .globalImplicit) (hd : (x == ("__debug__" : Str)) = false := by decide) :
    EvalW C k env (.Name x p) Q R ρ H := fun _ _ s S => by
  obtain ⟨u, g, r⟩ := g
  refine Calls.Name_function_global S.kind hk ?_ hd
  rcases g with ⟨mg, g1, g2⟩ | ⟨mg, mb, g1, g2, g3, g4⟩
  · exact Calls.loadGlobal_global (by rw [S.globals]; exact g1.keeps S.sim.keep) g2 (Post.here h S.sim (r _ _) rfl)
  · exact Calls.loadGlobal_builtin (by rw [S.globals]; exact g1.keeps S.sim.keep) g2 (by rw [S.builtins]; exact g3.keeps S.sim.keep) g4 (Post.here h S.sim (r _ _) rfl)

theorem wp_go {α β : Type} {C : Cx} {A : Around} {H : Hp} {s : Shared} {rel : Heap → Hp → β → α → Prop} {m : Sem α} {Q : β → Hp → Prop} {R : V → Hp → Prop} {P : α → Shared → Prop} {PE : Value → Shared → Prop}
    (h : wpAny C.M A m (Post C H s.heap rel Q) (Post C H s.heap VRel R) s)
    (h' : ∀ x v H₁ s₁, Q v H₁ → Sim C H₁ s₁ → rel s₁.heap H₁ v x → Ext H s.heap H₁ s₁.heap → P x s₁)
    (hE : ∀ e s₁, Post C H s.heap VRel R e s₁ → PE e s₁ := by intro _ _ p; exact p) : wpAny C.M A m P PE s :=
  wpAny_mono h (fun x s₁ ⟨v, H₁, q, S₁, r, E⟩ => h' x v H₁ s₁ q S₁ r E) hE
theorem wp_fin {α β : Type} {C : Cx} {A : Around} {H H₁ : Hp} {s₁ : Shared} {h : Heap} {rel : Heap → Hp → β → α → Prop} {m : Sem α} {Q : β → Hp → Prop} {R : V → Hp → Prop} (E : Ext H h H₁ s₁.heap)
    (x : wpAny C.M A m (Post C H₁ s₁.heap rel Q) (Post C H₁ s₁.heap VRel R) s₁) : wpAny C.M A m (Post C H h rel Q) (Post C H h VRel R) s₁ :=
  wpAny_mono x (fun _ _ p => p.after E) fun _ _ p => p.after E

theorem EvalW.binop {l op r p} (h : EvalW C k env l (fun v H₁ => EvalW C k env r (fun w H₂ => BinW C k op v w Q R H₂) R ρ H₁) R ρ H) :
    EvalW C k env (.BinOp l op r p) Q R ρ H := fun A a s S =>
  wpAny_BinOp (wp_go (h A a s S) fun x v H₁ s₁ h₁ S₁ r₁ E₁ => wp_go (h₁ A a s₁ (S.ext S₁ E₁)) (fun y w H₂ s₂ h₂ S₂ r₂ E₂ => wp_fin (E₁.trans E₂) (h₂ A a s₂ x y S₂ (r₁.ext E₂) r₂)) fun _ _ p => p.after E₁)
theorem EvalW.compare {l op r p} (h : EvalW C k env l (fun v H₁ => EvalW C k env r (fun w H₂ => CmpW C k op v w Q R H₂) R ρ H₁) R ρ H)
    (hm : behindInMarks op r = false := by with_unfolding_all rfl) :
    EvalW C k env (.Compare l [op] [r] p) Q R ρ H := fun A a s S =>
  wpAny_Compare1 (wp_go (h A a s S) fun x v H₁ s₁ h₁ S₁ r₁ E₁ => wp_go (h₁ A a s₁ (S.ext S₁ E₁)) (fun y w H₂ s₂ h₂ S₂ r₂ E₂ => wp_fin (E₁.trans E₂) (h₂ A a s₂ x y S₂ (r₁.ext E₂) r₂)) fun _ _ p => p.after E₁) hm
theorem TestW.compare {l op r p} (h : EvalW C k env l (fun v H₁ => EvalW C k env r (fun w H₂ => CmpW C k op v w (fun u H₃ => TruthW C k u QB R H₃) R H₂) R ρ H₁) R ρ H)
    (hm : behindInMarks op r = false := by with_unfolding_all rfl) :
    TestW C k env (.Compare l [op] [r] p) QB R ρ H := fun A a s S =>
  wpAny_isTrue_Compare1 (wp_go (h A a s S) fun x v H₁ s₁ h₁ S₁ r₁ E₁ => wp_go (h₁ A a s₁ (S.ext S₁ E₁)) (fun y w H₂ s₂ h₂ S₂ r₂ E₂ =>
    wp_go (h₂ A a s₂ x y S₂ (r₁.ext E₂) r₂) (fun z u H₃ s₃ h₃ S₃ r₃ E₃ => wp_fin ((E₁.trans E₂).trans E₃) (h₃ A a s₃ z S₃ r₃)) fun _ _ p => p.after (E₁.trans E₂)) fun _ _ p => p.after E₁) hm

theorem TestW.not {x p} (h : TestW C k env x (fun b H₁ => QB (!b) H₁) R ρ H) : TestW C k env (.UnaryOp .Not x p) QB R ρ H := fun A a s S =>
  isTrue_not (wpAny_mono (h A a s S) (fun b s' ⟨v, H', q, S', r, E⟩ => ⟨!v, H', q, S', by unfold BRel at *; rw [r], E⟩) fun _ _ x => x)
theorem TestW.and_nil {p} (h : QB true H) : TestW C k env (.BoolOp .And [] p) QB R ρ H := fun A a s S => isTrue_and_nil (Post.here h S.sim rfl rfl)
theorem TestW.or_nil {p} (h : QB false H) : TestW C k env (.BoolOp .Or [] p) QB R ρ H := fun A a s S => isTrue_or_nil (Post.here h S.sim rfl rfl)
theorem TestW.and {x rest p} (h : TestW C k env x (fun b H₁ => if b = true then TestW C k env (.BoolOp .And rest p) QB R ρ H₁ else QB false H₁) R ρ H) :
    TestW C k env (.BoolOp .And (x :: rest) p) QB R ρ H := fun A a s S => by
  refine isTrue_and (wpAny_mono (h A a s S) ?_ fun _ _ x => x)
  rintro b s' ⟨v, H', q, S', rfl, E⟩
  cases v
  · simp only [Bool.false_eq_true, if_false] at q ⊢; exact ⟨false, H', q, S', rfl, E⟩
  · simp only [if_true] at q ⊢; exact wpAny_mono (q A a s' (S.ext S' E)) (fun _ _ p => p.after E) fun _ _ p => p.after E
theorem TestW.or {x rest p} (h : TestW C k env x (fun b H₁ => if b = true then QB true H₁ else TestW C k env (.BoolOp .Or rest p) QB R ρ H₁) R ρ H) :
    TestW C k env (.BoolOp .Or (x :: rest) p) QB R ρ H := fun A a s S => by
  refine isTrue_or (wpAny_mono (h A a s S) ?_ fun _ _ x => x)
  rintro b s' ⟨v, H', q, S', rfl, E⟩
  cases v
  · simp only [Bool.false_eq_true, if_false] at q ⊢; exact wpAny_mono (q A a s' (S.ext S' E)) (fun _ _ p => p.after E) fun _ _ p => p.after E
  · simp only [if_true] at q ⊢; exact ⟨true, H', q, S', rfl, E⟩
theorem TestW.plain {e} (h : EvalW C k env e (fun v H₁ => TruthW C k v QB R H₁) R ρ H)
    (he : ∀ whole, isTrue e env whole = (do let v ← whole; standAt e.pos; holding [v] (truthy v)) := by intro; rfl) : TestW C k env e QB R ρ H := fun A a s S =>
  isTrue_plain (wp_go (h A a s S) fun x v H₁ s₁ h₁ S₁ r₁ E₁ => wp_fin E₁ (h₁ A a s₁ x S₁ r₁)) (he _)

theorem EvalW.not {x p} (h : EvalW C k env x (fun v H₁ => TruthW C k v (fun b H₂ => Q (.bool (!b)) H₂) R H₁) R ρ H) : EvalW C k env (.UnaryOp .Not x p) Q R ρ H := fun A a s S => by
  refine UnaryOp_ (wp_go (h A a s S) fun x v H₁ s₁ h₁ S₁ r₁ E₁ => not_of (wpAny_mono (h₁ A a s₁ x S₁ r₁) ?_ fun _ _ p => p.after E₁))
  rintro c s' ⟨v, H', q, S', rfl, E⟩
  exact ⟨_, H', q, S', .bool _, E₁.trans E⟩
theorem EvalW.and_one {op e p} (h : EvalW C k env e Q R ρ H) : EvalW C k env (.BoolOp op [e] p) Q R ρ H := fun A a s S => BoolOp_one (h A a s S)
theorem EvalW.and {e₁ e₂ rest p} (h : EvalW C k env e₁ (fun v H₁ => TruthW C k v (fun b H₂ => if b = true then EvalW C k env (.BoolOp .And (e₂ :: rest) p) Q R ρ H₂ else Q v H₂) R H₁) R ρ H) :
    EvalW C k env (.BoolOp .And (e₁ :: e₂ :: rest) p) Q R ρ H := fun A a s S => by
  refine BoolOp_and (wpAny_mono (h A a s S) ?_ fun _ _ x => x)
  rintro x s₁ ⟨v, H₁, h₁, S₁, r₁, E₁⟩
  refine wpAny_mono (h₁ A a s₁ x S₁ r₁) ?_ fun _ _ p => p.after E₁
  rintro b s' ⟨b', H', q, S', rfl, E⟩
  cases b'
  · simp only [Bool.false_eq_true, if_false] at q ⊢; exact ⟨v, H', q, S', r₁.ext E, E₁.trans E⟩
  · simp only [if_true] at q ⊢; exact wpAny_mono (q A a s' (S.ext S' (E₁.trans E))) (fun _ _ p => p.after (E₁.trans E)) fun _ _ p => p.after (E₁.trans E)
end Mine

set_option Elab.async false
set_option linter.unusedVariables false
namespace Mine
open PySem PyProof.Rows

theorem get_eq_of {h h' : Heap} {b a : Addr} {o : Obj} (hk : ∀ a o, a ≠ b → h.get? a = some o → h'.get? a = some o) (n : a ≠ b) (e : h.get? a = some o) : h'.get? a = h.get? a := (hk a o n e).trans e.symm

theorem Sim.touch {C : Cx} {H : Hp} {s s' : Shared} {b : Addr} {ob : Obj} (S : Sim C H s) (hb : s.heap.get? b = some ob) (nb : ∀ xs n, ob.data ≠ .seq xs n) (Hb : H b = none) (new : C.base.get? b = none)
    (hk : ∀ a o, a ≠ b → s.heap.get? a = some o → s'.heap.get? a = some o) (hg : s'.gens = s.gens) (ho : s'.os = s.os) (nf : (∃ o' es ep, s'.heap.get? b = some o' ∧ o'.data = .dict es ep) ∨ (∀ es ep, ob.data ≠ .dict es ep) ∨ ∃ h0 H0, FrOK C H0 h0 ∧ h0.get? b = none) : Sim C H s' := by
  refine ⟨fun a o e => hk a o (fun q => ?_) (S.keep a o e), hg.trans S.gens, ho.trans S.os, fun a o e => ?_, S.new, ?_⟩
  · subst q; rw [new] at e; cases e
  · have r := S.objs a o e
    obtain ⟨ob', e'⟩ := r.lt
    exact r.same (ExtV.but hb nb hk) (get_eq_of hk (fun q => by subst q; rw [Hb] at e; cases e) e')
  · rcases nf with nf | nf | ⟨h0, H0, F0, n0⟩
    · exact S.frs.same fun L o es ep e n d => ⟨n, if q : L = b then q ▸ nf else ⟨o, es, ep, hk L o q e, d⟩⟩
    · exact S.frs.keep fun L o es ep e n d => ⟨n, hk L o (fun q => by subst q; rw [hb] at e; cases e; exact nf _ _ d) e⟩
    · intro l el env m
      obtain ⟨q, L, o, e1, e2, e3, e4, e5⟩ := S.frs l el env m
      obtain ⟨_, L0, o0, f1, _, _, f4, _⟩ := F0 l el env m
      rw [e1] at f1; cases f1
      exact ⟨q, L, o, e1, e2, e3, hk L o (fun z => by rw [z, n0] at f4; cases f4) e4, e5⟩

theorem ns_noseq {h : Heap} {L : Addr} {m} (n : h.Ns L m) : ∃ o, h.get? L = some o ∧ ∀ xs n, o.data ≠ .seq xs n := by
  obtain ⟨o, es, ep, e, d, _⟩ := n
  exact ⟨o, e, fun xs n q => by rw [d] at q; cases q⟩
theorem ns_dict {h : Heap} {L : Addr} {m} (n : h.Ns L m) : ∃ o es ep, h.get? L = some o ∧ o.data = .dict es ep := by
  obtain ⟨o, es, ep, e, d, _⟩ := n
  exact ⟨o, es, ep, e, d⟩
theorem cell_nodict {h : Heap} {c : Addr} {v} (n : h.IsCell c v) {o : Obj} (e : h.get? c = some o) : ∀ es ep, o.data ≠ .dict es ep := by
  obtain ⟨o', e', d⟩ := n
  rw [e'] at e; cases e
  intro es ep q; rw [d] at q; cases q
theorem cell_noseq {h : Heap} {c : Addr} {v} (n : h.IsCell c v) : ∃ o, h.get? c = some o ∧ ∀ xs n, o.data ≠ .seq xs n := by
  obtain ⟨o, e, d⟩ := n
  exact ⟨o, e, fun xs n q => by rw [d] at q; cases q⟩

inductive Fl where
  | next | brk | cont
  | ret (v : V)

noncomputable def FlRel (h : Heap) (H : Hp) : Fl → Flow → Prop
  | .next, .next => True
  | .brk, .brk => True
  | .cont, .cont => True
  | .ret v, .ret x => VRel h H v x
  | _, _ => False

noncomputable def PostS (C : Cx) (env : Env) (H : Hp) (h : Heap) (Q : Fl → Rho → Hp → Prop) : Flow → Shared → Prop :=
  fun f s' => ∃ fl ρ' H', Q fl ρ' H' ∧ FlRel s'.heap H' fl f ∧ SimL C env ρ' H' s' ∧ ExtF env H h H' s'.heap
noncomputable def PostX (C : Cx) (env : Env) (H : Hp) (h : Heap) (R : V → Rho → Hp → Prop) : Value → Shared → Prop :=
  fun e s' => ∃ v ρ' H', R v ρ' H' ∧ VRel s'.heap H' v e ∧ SimL C env ρ' H' s' ∧ ExtF env H h H' s'.heap
theorem PostS.after {C : Cx} {env : Env} {H H₁ : Hp} {h h₁ : Heap} {Q : Fl → Rho → Hp → Prop} (E : ExtF env H h H₁ h₁) {x : Flow} {s' : Shared} (p : PostS C env H₁ h₁ Q x s') : PostS C env H h Q x s' :=
  let ⟨v, ρ, H', q, r, S, E'⟩ := p; ⟨v, ρ, H', q, r, S, E.trans E'⟩
theorem PostX.after {C : Cx} {env : Env} {H H₁ : Hp} {h h₁ : Heap} {R : V → Rho → Hp → Prop} (E : ExtF env H h H₁ h₁) {x : Value} {s' : Shared} (p : PostX C env H₁ h₁ R x s') : PostX C env H h R x s' :=
  let ⟨v, ρ, H', q, r, S, E'⟩ := p; ⟨v, ρ, H', q, r, S, E.trans E'⟩

noncomputable def ExecW (C : Cx) (k : Nat) (env : Env) (st : Stmt) (Q : Fl → Rho → Hp → Prop) (R : V → Rho → Hp → Prop) (ρ : Rho) (H : Hp) : Prop :=
  ∀ A, Lv C k A → ∀ s, SimL C env ρ H s → wpAny C.M A (exec st env) (PostS C env H s.heap Q) (PostX C env H s.heap R) s
noncomputable def ExecsW (C : Cx) (k : Nat) (env : Env) (st : List Stmt) (Q : Fl → Rho → Hp → Prop) (R : V → Rho → Hp → Prop) (ρ : Rho) (H : Hp) : Prop :=
  ∀ A, Lv C k A → ∀ s, SimL C env ρ H s → wpAny C.M A (execs st env) (PostS C env H s.heap Q) (PostX C env H s.heap R) s

theorem Post.toX {C : Cx} {env : Env} {ρ : Rho} {H : Hp} {s : Shared} {R : V → Rho → Hp → Prop} (S : SimL C env ρ H s) {e : Value} {s' : Shared} (p : Post C H s.heap VRel (fun v H' => R v ρ H') e s') : PostX C env H s.heap R e s' :=
  let ⟨v, H', q, S', r, E⟩ := p; ⟨v, ρ, H', q, r, S.ext S' E, E.toF⟩

variable {C : Cx} {k : Nat} {env : Env} {ρ : Rho} {H : Hp} {Q : Fl → Rho → Hp → Prop} {R : V → Rho → Hp → Prop}

theorem ExecsW.nil (h : Q .next ρ H) : ExecsW C k env [] Q R ρ H := fun A a s S => wpAny_execs_nil ⟨.next, ρ, H, h, trivial, S, ExtF.refl _ _ _⟩

noncomputable def Cont (C : Cx) (k : Nat) (env : Env) (rest : List Stmt) (Q : Fl → Rho → Hp → Prop) (R : V → Rho → Hp → Prop) : Fl → Rho → Hp → Prop
  | .next, ρ, H => ExecsW C k env rest Q R ρ H
  | f, ρ, H => Q f ρ H

theorem ExecsW.cons {st rest} (h : ExecW C k env st (Cont C k env rest Q R) R ρ H) : ExecsW C k env (st :: rest) Q R ρ H := fun A a s S => by
  refine wpAny_execs_cons (wpAny_mono (h A a s S) ?_ fun _ _ x => x)
  rintro f s' ⟨fl, ρ', H', q, r, S', E⟩
  cases fl <;> cases f <;> first | exact r.elim | skip
  · exact wpAny_mono (q A a s' S') (fun _ _ p => p.after E) fun _ _ p => p.after E
  · exact ⟨.brk, ρ', H', q, r, S', E⟩
  · exact ⟨.cont, ρ', H', q, r, S', E⟩
  · exact ⟨.ret _, ρ', H', q, r, S', E⟩

theorem ExecW.ret {e p} (h : EvalW C k env e (fun v H' => Q (.ret v) ρ H') (fun v H' => R v ρ H') ρ H) : ExecW C k env (.Return (some e) p) Q R ρ H := fun A a s S =>
  wpAny_Return_some (wpAny_mono (h A a s S) (fun x s' ⟨v, H', q, S', r, E⟩ => ⟨.ret v, ρ, H', q, r, S.ext S' E, E.toF⟩) fun _ _ p => p.toX S)
theorem ExecW.if_ {t b o p} (h : TestW C k env t (fun c H' => if c = true then ExecsW C k env b Q R ρ H' else ExecsW C k env o Q R ρ H') (fun v H' => R v ρ H') ρ H) : ExecW C k env (.If t b o p) Q R ρ H := fun A a s S => by
  refine wpAny_If (wpAny_mono (h A a s S) ?_ fun _ _ p => p.toX S)
  rintro c s' ⟨c', H', q, S', rfl, E⟩
  cases c'
  · simp only [Bool.false_eq_true, if_false] at q ⊢; exact wpAny_mono (q A a s' (S.ext S' E)) (fun _ _ p => p.after E.toF) fun _ _ p => p.after E.toF
  · simp only [if_true] at q ⊢; exact wpAny_mono (q A a s' (S.ext S' E)) (fun _ _ p => p.after E.toF) fun _ _ p => p.after E.toF

theorem store_local {A : Around} {E : Value → Shared → Prop} {x : Str} {v : V} {u : Value} {s : Shared} {P : Unit → Shared → Prop} (hk : env.kindOf x = some .local) (S : SimL C env ρ H s) (r : VRel s.heap H v u)
    (h : ∀ s', SimL C env (ρ.set x v) H s' → ExtF env H s.heap H s'.heap → (∀ a o, a ≠ env.locals → s.heap.get? a = some o → s'.heap.get? a = some o) → s'.gens = s.gens → P () s') : wpAny C.M A (storeName env x u) P E s := by
  obtain ⟨m, cm, F, rr⟩ := S.frm
  refine wpAny_storeName_local hk F.ns (fun h' hn hs => ?_) (by rw [S.kind]; rfl)
  obtain ⟨oL, eL, nL⟩ := ns_noseq F.ns
  have hk' : ∀ a o, a ≠ env.locals → s.heap.get? a = some o → h'.get? a = some o := fun a o n e => hs.extBut a o n e
  have S1 : Sim C H { s with heap := h', toks := s.toks + 1 } := S.sim.touch (s' := { s with heap := h', toks := s.toks + 1 }) eL nL F.own F.above hk' rfl rfl (.inl (ns_dict hn))
  have V1 : ExtV H s.heap H h' := ExtV.but eL nL hk'
  obtain ⟨oL', eL', _⟩ := ns_noseq hn
  refine h _ ⟨S1, S.kind, S.globals, S.builtins, _, cm, ⟨hn, fun n c e => ?_, F.own, F.ownc, F.above, F.abovec, F.apart⟩, fun y w e => ?_⟩ ⟨fun a o e _ n _ => .of (hk' a o n e), fun a o e n => n, fun a o e => ?_⟩ hk' rfl
  · have := F.cell n c e
    refine this.sameBut hs fun q => ?_
    obtain ⟨oc, ec, dc⟩ := this
    subst q; obtain ⟨o, es, ep, e1, d1, _⟩ := F.ns; rw [e1] at ec; cases ec; rw [d1] at dc; cases dc
  · unfold Rho.set at e
    unfold LocRel
    by_cases q : y = x
    · subst q
      rw [if_pos rfl] at e; cases e
      rw [hk]; exact ⟨u, by simp, r.extV V1⟩
    · rw [if_neg q] at e
      have := (rr y w e).extV V1
      unfold LocRel at this
      split at this
      · obtain ⟨u', a, b⟩ := this; exact ⟨u', by simp [q, a], b⟩
      · exact this
      · exact this
      · trivial
  · by_cases q : a = env.locals
    · subst q; exact ⟨oL', eL'⟩
    · exact ⟨o, hk' a o q e⟩
theorem store_cell {A : Around} {E : Value → Shared → Prop} {x : Str} {v : V} {u : Value} {s : Shared} {P : Unit → Shared → Prop} (hk : env.kindOf x = some .cell) (hc : (env.cells.lookup x).isSome = true) (S : SimL C env ρ H s) (r : VRel s.heap H v u)
    (h : ∀ s', SimL C env (ρ.set x v) H s' → ExtF env H s.heap H s'.heap → (∀ a o, (∀ n, env.cells.lookup n ≠ some a) → s.heap.get? a = some o → s'.heap.get? a = some o) → s'.gens = s.gens → P () s') : wpAny C.M A (storeName env x u) P E s := by
  obtain ⟨m, cm, F, rr⟩ := S.frm
  obtain ⟨c, hc⟩ := Option.isSome_iff_exists.mp hc
  refine wpAny_storeName_cell S.kind hk hc (F.cell x c hc) (fun h' hn hs => ?_)
  obtain ⟨oL, eL, nL⟩ := cell_noseq (F.cell x c hc)
  have hk' : ∀ a o, a ≠ c → s.heap.get? a = some o → h'.get? a = some o := fun a o n e => hs.extBut a o n e
  have S1 : Sim C H { s with heap := h' } := S.sim.touch (s' := { s with heap := h' }) eL nL (F.ownc x c hc) (F.abovec x c hc) hk' rfl rfl (.inr (.inl (cell_nodict (F.cell x c hc) eL)))
  have V1 : ExtV H s.heap H h' := ExtV.but eL nL hk'
  obtain ⟨oL', eL', _⟩ := cell_noseq hn
  refine h _ ⟨S1, S.kind, S.globals, S.builtins, m, fun y => if y = x then some u else cm y, ⟨?_, fun n c' e => ?_, F.own, F.ownc, F.above, F.abovec, F.apart⟩, fun y w e => ?_⟩ ⟨fun a o e _ _ n => .of (hk' a o (fun q => n x (q ▸ hc)) e), fun a o e n => n, fun a o e => ?_⟩ (fun a o n e => hk' a o (fun q => n x (q ▸ hc)) e) rfl
  · refine F.ns.sameBut hs fun q => ?_
    obtain ⟨oc, ec, dc⟩ := F.cell x c hc
    obtain ⟨o, es, ep, e1, d1, _⟩ := F.ns; rw [← q, e1] at ec; cases ec; rw [d1] at dc; cases dc
  · by_cases q : n = x
    · subst q; rw [hc] at e; cases e; simpa using hn
    · rw [if_neg q]
      exact (F.cell n c' e).sameBut hs fun q' => q (F.apart n x c (q' ▸ e) hc)
  · unfold Rho.set at e
    unfold LocRel
    by_cases q : y = x
    · subst q
      rw [if_pos rfl] at e; cases e
      rw [hk]; exact ⟨u, c, hc, by simp, r.extV V1⟩
    · rw [if_neg q] at e
      have := (rr y w e).extV V1
      unfold LocRel at this
      split at this
      · exact this
      · obtain ⟨u', c', a, b, d⟩ := this; exact ⟨u', c', a, by simp [q, b], d⟩
      · obtain ⟨u', c', a, b, d⟩ := this; exact ⟨u', c', a, by simp [q, b], d⟩
      · trivial
  · by_cases q : a = c
    · subst q; exact ⟨oL', eL'⟩
    · exact ⟨o, hk' a o q e⟩

noncomputable def Storable (env : Env) (x : Str) : Prop := env.kindOf x = some .local ∨ (env.kindOf x = some .cell ∧ (env.cells.lookup x).isSome = true)
theorem store_W {A : Around} {E : Value → Shared → Prop} {x : Str} {v : V} {u : Value} {s : Shared} {P : Unit → Shared → Prop} (hk : Storable env x) (S : SimL C env ρ H s) (r : VRel s.heap H v u)
    (h : ∀ s', SimL C env (ρ.set x v) H s' → ExtF env H s.heap H s'.heap → s'.gens = s.gens → P () s') : wpAny C.M A (storeName env x u) P E s := by
  rcases hk with hk | ⟨hk, hc⟩
  · exact store_local hk S r fun s' a b _ d => h s' a b d
  · exact store_cell hk hc S r fun s' a b _ d => h s' a b d

theorem ExecW.assign {x p' e p} (hk : Storable env x) (h : EvalW C k env e (fun v H' => Q .next (ρ.set x v) H') (fun v H' => R v ρ H') ρ H)
    (hs : swapsWith e (some (.Name x p')) p.line env = pure false := by rfl) : ExecW C k env (.Assign [.Name x p'] e p) Q R ρ H := fun A a s S => by
  refine wpAny_Assign_Name (wpAny_mono (h A a s S) ?_ fun _ _ p => p.toX S) hs
  rintro u s' ⟨v, H', q, S', r, E⟩
  exact store_W hk (S.ext S' E) r fun s'' S'' E'' _ => ⟨.next, _, H', q, trivial, S'', E.toF.trans E''⟩

end Mine

set_option Elab.async false
set_option linter.unusedVariables false
namespace Mine
open PySem PyProof.Rows

theorem Sim.grown {C : Cx} {H : Hp} {s s' : Shared} (S : Sim C H s) (hk : ∀ a o, s.heap.get? a = some o → s'.heap.get? a = some o) (hg : s'.gens = s.gens) (ho : s'.os = s.os) : Sim C H s' := by
  refine ⟨fun a o e => hk a o (S.keep a o e), hg.trans S.gens, ho.trans S.os, fun a o e => ?_, S.new, S.frs.keep fun L o _ _ e n _ => ⟨n, hk L o e⟩⟩
  have r := S.objs a o e
  obtain ⟨ob', e'⟩ := r.lt
  exact r.same (fun a o _ _ e _ n => ⟨.of (hk a o e), n⟩) ((hk a ob' e').trans e'.symm)
theorem Ext.grown {H : Hp} {h h' : Heap} (hk : ∀ a o, h.get? a = some o → h'.get? a = some o) : Ext H h H h' := ⟨fun a o e _ => .of (hk a o e), fun _ _ _ n => n, fun a o e => ⟨o, hk a o e⟩⟩
theorem Sim.freshB {C : Cx} {H : Hp} {s : Shared} (S : Sim C H s) {a : Addr} (h : s.heap.objs.size ≤ a) : C.base.get? a = none := by
  cases e : C.base.get? a with
  | none => rfl
  | some o => exact absurd (Heap.lt_size (S.keep a o e)) (Nat.not_lt.mpr h)
theorem Sim.freshS {C : Cx} {H : Hp} {s : Shared} (S : Sim C H s) {a : Addr} (h : s.heap.objs.size ≤ a) : a ≠ sysModules := by
  obtain ⟨o, e⟩ := C.low
  have h1 := Heap.lt_size (S.keep _ _ e)
  have h2 : sysModules < cStatics := by decide
  intro q
  rw [q] at h
  exact absurd (Nat.lt_of_lt_of_le (Nat.lt_trans h2 h1) h) (Nat.lt_irrefl _)
theorem Sim.fresh {C : Cx} {H : Hp} {s : Shared} (S : Sim C H s) {a : Addr} (h : s.heap.objs.size ≤ a) : H a = none := by
  cases e : H a with
  | none => rfl
  | some o => obtain ⟨ob, e'⟩ := (S.objs a o e).lt; exact absurd (Heap.lt_size e') (Nat.not_lt.mpr h)

noncomputable def Fz (H : Hp) (v v' : V) (H' : Hp) : Prop := (∀ a, H a = none → H' a = none) ∧ ∀ (C : Cx) (s : Shared) (x : Value), Sim C H s → VRel s.heap H v x → Sim C H' s ∧ VRel s.heap H' v' x
theorem Fz.refl {H v} : Fz H v v H := ⟨fun _ e => e, fun _ _ _ S r => ⟨S, r⟩⟩
noncomputable def Hp.le (H' H : Hp) : Prop := ∀ a o, H' a = some o → H a = some o
theorem Hp.le.none {H H' : Hp} (h : H'.le H) (a : Addr) (e : H a = Option.none) : H' a = Option.none := by
  cases q : H' a with
  | none => rfl
  | some o => rw [h a o q] at e; cases e
theorem ExtV.of_le {H H' : Hp} (h : H'.le H) (hp : Heap) : ExtV H hp H' hp := fun a o _ _ e _ n => ⟨.of e, h.none a n⟩
theorem Sim.le {C H H' s} (S : Sim C H s) (h : Hp.le H' H) : Sim C H' s :=
  ⟨S.keep, S.gens, S.os, fun a o e => (S.objs a o (h a o e)).same (ExtV.of_le h _) rfl, fun a e => S.new a fun q => e (h.none a q), S.frs.keep fun L o _ _ e n _ => ⟨h.none L n, e⟩⟩

mutual
inductive FzR (H : Hp) (D : Addr → Prop) : V → V → Prop
  | refl (v : V) : FzR H D v v
  | tup {l l' : List V} (h : FzRL H D l l') : FzR H D (.tup l) (.tup l')
  | lst {l l' : List V} (h : FzRL H D l l') : FzR H D (.lst l) (.lst l')
  | thaw {a : Addr} {l l' : List V} (hD : D a) (ha : H a = some (.list l)) (h : FzRL H D l l') : FzR H D (.ref a) (.lst l')
inductive FzRL (H : Hp) (D : Addr → Prop) : List V → List V → Prop
  | nil : FzRL H D [] []
  | cons {v v' : V} {l l' : List V} (h : FzR H D v v') (hl : FzRL H D l l') : FzRL H D (v :: l) (v' :: l')
end
mutual
theorem FzR.sound {C : Cx} {H H' : Hp} {D : Addr → Prop} {s : Shared} (S : Sim C H s) (hle : Hp.le H' H) (hD : ∀ a, D a → H' a = none) : ∀ {v v'}, FzR H D v v' → ∀ {x}, VRel s.heap H v x → VRel s.heap H' v' x
  | _, _, .refl v, x, r => r.extV (ExtV.of_le hle _)
  | _, _, .tup h, _, .tup ha ho hl => .tup ha (hle.none _ ho) (FzRL.sound S hle hD h hl)
  | _, _, .lst h, _, .lst ha ho hl => .lst ha (hle.none _ ho) (FzRL.sound S hle hD h hl)
  | _, _, .thaw (a := b) d ha h, x, rx => by
    obtain ⟨xs, e, r⟩ := S.objs _ _ ha
    have hx : x = .ref b := by cases rx; rfl
    subst hx
    exact .lst e.isList (hD _ d) (FzRL.sound S hle hD h r)
theorem FzRL.sound {C : Cx} {H H' : Hp} {D : Addr → Prop} {s : Shared} (S : Sim C H s) (hle : Hp.le H' H) (hD : ∀ a, D a → H' a = none) : ∀ {v v'}, FzRL H D v v' → ∀ {x}, VRelL s.heap H v x → VRelL s.heap H' v' x
  | _, _, .nil, _, .nil => .nil
  | _, _, .cons h hl, _, .cons r rl => .cons (FzR.sound S hle hD h r) (FzRL.sound S hle hD hl rl)
end
theorem Fz.of {H H' : Hp} {D : Addr → Prop} {v v' : V} (r : FzR H D v v') (hle : Hp.le H' H) (hD : ∀ a, D a → H' a = none) : Fz H v v' H' :=
  ⟨hle.none, fun C s x S rx => ⟨S.le hle, r.sound S hle hD rx⟩⟩
theorem Fz.drop {H H' : Hp} {v : V} (hle : Hp.le H' H) : Fz H v v H' := Fz.of (D := fun _ => False) (.refl v) hle fun _ h => h.elim

abbrev SpecT := List V → (V → Hp → Prop) → (V → Hp → Prop) → Hp → Prop

noncomputable def PostC (C : Cx) (H : Hp) (h : Heap) (Q R : V → Hp → Prop) : Result → Shared → Prop := fun r s' => match r with
  | .ok (.ret x) => Post C H h VRel Q x s'
  | .ok _ => False
  | .error e => Post C H h VRel R e s'

noncomputable def FnOK (C : Cx) (k : Nat) (f : Value) (S : SpecT) : Prop :=
  ∀ A, Lv C k A → ∀ s H args xs Q R, Sim C H s → VRelL s.heap H args xs → S args Q R H → codeAny C.M A (.call f ⟨xs, []⟩) (PostC C H s.heap Q R) s

theorem FnOK.call {C k f S} (h : FnOK C k f S) {args Q R H} (hs : S args Q R H) : CallW C k f args Q R H := fun A a s xs Sm r => by
  refine wpAny_call (codeAny_mono (h A a s H args xs Q R Sm r hs) fun r s' p => ?_)
  rcases r with e | (_ | _ | _ | v) <;> first | exact p | exact p.elim

noncomputable def bindRho (ρ : Rho) : List Str → List V → Rho
  | n :: ns, v :: vs => bindRho (ρ.set n v) ns vs
  | _, _ => ρ

structure FnDef (C : Cx) (a : Addr) (fd : FuncData) (names : List Str) (body : List Stmt) : Prop where
  obj : ∃ o, C.base.get? a = some o ∧ o.data = .func fd
  limit : C.base.NoLimit
  code : C.base.CodeRec fd.code fd.qualname
  body : fd.body = .stmts body
  closure : fd.closure = []
  globals : fd.globals = mainGlobals
  builtins : fd.builtins = builtinsNs
  co : fd.scope.isCoroutine = false
  gen : fd.scope.isGenerator = false
  kind : fd.scope.kind = .function
  bind : ∀ vals : List Value, vals.length = names.length → bindArgs fd ⟨vals, []⟩ = pure (names.zip vals)
  kinds : ∀ n ∈ names, fd.scope.names.lookup n = some .local ∨ fd.scope.names.lookup n = some .cell

theorem cellsFrom_isSome : ∀ (names : List (Str × NameKind)) (n : Nat) (acc : List (Str × Addr)) (x : Str), (names.lookup x = some .cell ∨ (acc.lookup x).isSome = true) → ((cellsFrom n names acc).lookup x).isSome = true
  | [], n, acc, x, h => by rcases h with h | h; · cases h
                           · exact h
  | (y, kd) :: r, n, acc, x, h => by
    unfold cellsFrom
    rw [List.lookup_cons] at h
    split
    · rename_i hk
      refine cellsFrom_isSome r (n + 1) _ x ?_
      rw [List.lookup_cons]
      by_cases q : (x == y) = true
      · rw [q]; exact .inr rfl
      · have q' : (x == y) = false := by simpa using q
        rw [q'] at h ⊢; exact h
    · rename_i hk
      refine cellsFrom_isSome r n _ x ?_
      by_cases q : (x == y) = true
      · rw [q] at h
        rcases h with h | h
        · simp only [Option.some.injEq] at h; rw [h] at hk; simp at hk
        · exact .inr h
      · have q' : (x == y) = false := by simpa using q
        rw [q'] at h; exact h

structure EnvOf (fd : FuncData) (env : Env) : Prop where
  scope : env.scope = fd.scope
  cells : ∀ x, env.kindOf x = some .cell → (env.cells.lookup x).isSome = true

theorem bind_rel {h : Heap} {H : Hp} {env : Env} : ∀ (names : List Str) (args : List V) (vals : List Value), VRelL h H args vals → ∀ (ρ : Rho) (m cm : Str → Option Value), (∀ n ∈ names, env.kindOf n = some .local ∨ (env.kindOf n = some .cell ∧ (env.cells.lookup n).isSome = true)) →
    (∀ x v, ρ x = some v → LocRel h H env m cm x v) → ∀ x v, bindRho ρ names args x = some v → LocRel h H env (bindL env.kindOf (names.zip vals) m) (bindC env.kindOf (names.zip vals) cm) x v
  | [], args, vals, r, ρ, m, cm, hk, h0, x, v, e => by cases args <;> exact h0 x v e
  | n :: ns, [], _, .nil, ρ, m, cm, hk, h0, x, v, e => h0 x v e
  | n :: ns, a :: as, u :: us, .cons ru rs, ρ, m, cm, hk, h0, x, v, e => by
    rw [List.zip_cons_cons]
    unfold bindL bindC
    refine bind_rel ns as us rs (ρ.set n a) _ _ (fun y hy => hk y (.tail _ hy)) ?_ x v e
    intro y w ey
    unfold Rho.set at ey
    have hn := hk n (.head _)
    by_cases q : y = n
    · subst q
      rw [if_pos rfl] at ey; cases ey
      unfold LocRel
      rcases hn with hn | ⟨hn, hc⟩
      · rw [hn]; simp only [if_true]; exact ⟨u, by simp, ru⟩
      · rw [hn]
        obtain ⟨c, hc⟩ := Option.isSome_iff_exists.mp hc
        simp only [Option.some.injEq, reduceCtorEq, if_false]
        exact ⟨u, c, hc, by simp, ru⟩
    · rw [if_neg q] at ey
      have := h0 y w ey
      unfold LocRel at this ⊢
      split at this
      · rename_i hy
        obtain ⟨u', a', b'⟩ := this
        refine ⟨u', ?_, b'⟩
        split
        · simp [q, a']
        · exact a'
      · obtain ⟨u', c', a', b', d'⟩ := this
        refine ⟨u', c', a', ?_, d'⟩
        split
        · exact b'
        · simp [q, b']
      · obtain ⟨u', c', a', b', d'⟩ := this
        refine ⟨u', c', a', ?_, d'⟩
        split
        · exact b'
        · simp [q, b']
      · trivial

noncomputable def Fl.val : Fl → V
  | .ret v => v
  | _ => .none

noncomputable def RetQ (Q : V → Hp → Prop) : Fl → Rho → Hp → Prop := fun fl _ H => ∃ v' H', Fz H fl.val v' H' ∧ Q v' H'

theorem FlRel.val {h : Heap} {H : Hp} : ∀ {fl : Fl} {f : Flow}, FlRel h H fl f → VRel h H fl.val (match f with | .ret v => v | _ => .none)
  | .next, .next, _ => .none
  | .brk, .brk, _ => .none
  | .cont, .cont, _ => .none
  | .ret _, .ret _, r => r

noncomputable abbrev Cx.push (C : Cx) (env : Env) : Cx := { C with frs := C.frs.map (env :: ·) }
theorem Sim.pop {C : Cx} {H : Hp} {s : Shared} {env : Env} (S : Sim (C.push env) H s) : Sim C H s :=
  ⟨S.keep, S.gens, S.os, S.objs, S.new, fun l e x m => S.frs (env :: l) (by show C.frs.map _ = _; rw [e]; rfl) x (.tail _ m)⟩
theorem Sim.push {C : Cx} {H : Hp} {s : Shared} {env : Env} {L : Addr} {o : Obj} (S : Sim C H s) (hk : env.scope.kind ≠ .module) (hf : env.frame = some L) (hb : C.base.get? L = none) (hH : H L = none) (hL : s.heap.get? L = some o) {es : Array DictEntry} {ep : Nat} (hd : o.data = .dict es ep) : Sim (C.push env) H s :=
  ⟨S.keep, S.gens, S.os, S.objs, S.new, fun l e x m => by
    change C.frs.map (env :: ·) = some l at e
    cases q : C.frs with
    | none => rw [q] at e; cases e
    | some l' =>
      rw [q] at e; cases e
      cases m with
      | head => exact ⟨hk, L, o, hf, hb, hH, hL, es, ep, hd⟩
      | tail _ m => exact S.frs l' q x m⟩
theorem FnOK.of_def {C : Cx} {k : Nat} {a : Addr} {fd : FuncData} {names : List Str} {body : List Stmt} {S : SpecT} (D : FnDef C a fd names body)
    (h : ∀ args Q R H, S args Q R H → args.length = names.length ∧ ∀ L, ExecsW (C.push (callEnvC fd L a)) k (callEnvC fd L a) body (RetQ Q) (fun _ _ _ => False) (bindRho (fun _ => none) names args) H) :
    FnOK C (k + 1) (.ref a) S := by
  intro A lv s H args xs Q R Sm rel hs
  obtain ⟨hlen, hb⟩ := h args Q R H hs
  obtain ⟨o, ho, hd⟩ := D.obj
  have hxl : xs.length = names.length := rel.length.trans hlen
  have hkinds : ∀ x ∈ names.zip xs, fd.scope.names.lookup x.1 = some .local ∨ (fd.scope.names.lookup x.1 = some .cell ∧ ((cellsFrom (s.heap.objs.size + 1) fd.scope.names []).lookup x.1).isSome = true) := by
    intro x hx
    rcases D.kinds x.1 (List.of_mem_zip (a := x.1) (b := x.2) hx).1 with q | q
    · exact .inl q
    · exact .inr ⟨q, cellsFrom_isSome _ _ _ _ (.inl q)⟩
  refine codeAny_call_cells (by have := lv.depth; omega) (Sm.keep _ _ ho) hd (D.limit.keeps Sm.keep) (D.code.keeps Sm.keep) D.body (D.bind xs hxl) D.closure hkinds (fun s₁ X => ?_) D.co D.gen D.kind
  have hkeep := X.toInCall.keep
  obtain ⟨h₁, tk, e₁, _⟩ := X.done
  have E₁ : Ext H s.heap H s₁.heap := Ext.grown hkeep
  have S₁ : Sim C H s₁ := Sm.grown hkeep (by rw [e₁]) (by rw [e₁])
  have EO : EnvOf fd (callEnvC fd s.heap.objs.size a) := ⟨rfl, fun x hx => cellsFrom_isSome _ _ _ _ (.inl hx)⟩
  obtain ⟨oL, esL, epL, eL, dL, _⟩ := X.toInCall.ns
  have S₂ : Sim (C.push (callEnvC fd s.heap.objs.size a)) H s₁ := S₁.push (by show fd.scope.kind ≠ _; rw [D.kind]; decide) rfl (Sm.freshB (Nat.le_refl _)) (Sm.fresh (Nat.le_refl _)) eL dL
  have SL : SimL (C.push (callEnvC fd s.heap.objs.size a)) (callEnvC fd s.heap.objs.size a) (bindRho (fun _ => none) names args) H s₁ := by
    refine ⟨S₂, D.kind, D.globals, D.builtins, _, _, ⟨X.toInCall.ns, X.cell, Sm.fresh (Nat.le_refl _), fun n c e => Sm.fresh ?_, Sm.freshB (Nat.le_refl _), fun n c e => Sm.freshB ?_, fun n n' c e e' => name_of_addr X.apart (mem_of_lookup e) (mem_of_lookup e')⟩, ?_⟩
    · exact Nat.le_of_lt (X.above n c (mem_of_lookup e))
    · exact Nat.le_of_lt (X.above n c (mem_of_lookup e))
    · refine bind_rel names args xs (rel.ext E₁) _ _ _ (fun n hn => ?_) (fun x v e => by cases e)
      rcases D.kinds n hn with q | q
      · exact .inl q
      · exact .inr ⟨q, EO.cells n q⟩
  have lv' : Lv (C.push (callEnvC fd s.heap.objs.size a)) k (A.deeper (callEnvC fd s.heap.objs.size a)) := ⟨fun e => lv.handled e, by have := lv.depth; show A.depth + 1 + 2 * k + 100 < _; omega, by have := lv.units; show A.units + 3 + 40 * k + 100 < _; omega, fun l e => by
    change C.frs.map (callEnvC fd s.heap.objs.size a :: ·) = some l at e
    cases q : C.frs with
    | none => rw [q] at e; cases e
    | some l' => rw [q] at e; cases e; exact Around.frames_deeper (lv.frames l' q)⟩
  refine wpAny_mono (hb _ _ lv' s₁ SL) ?_ ?_
  · rintro f s' ⟨fl, ρ', H', ⟨v', H'', fz, q⟩, r, S', E'⟩
    have E'' : Ext H s.heap H' s'.heap := by
      refine ⟨fun b ob e n => E'.keep b ob (hkeep b ob e) n ?_ ?_, fun b ob e n => E'.grow b ob (hkeep b ob e) n, fun b ob e => E'.live b ob (hkeep b ob e)⟩
      · exact Nat.ne_of_lt (Heap.lt_size e)
      · intro n' e'
        have h1 := X.above n' b (mem_of_lookup e')
        have h2 := Heap.lt_size e
        exact absurd (Nat.lt_trans (show s.heap.objs.size < b from h1) h2) (Nat.lt_irrefl _)
    have rv := r.val
    obtain ⟨S'', r''⟩ := fz.2 C s' _ S'.sim.pop rv
    exact ⟨v', H'', q, S'', r'', ⟨E''.keep, fun b ob e n => fz.1 b (E''.grow b ob e n), E''.live⟩⟩
  · rintro e s' ⟨_, _, _, q, _⟩; exact q.elim

end Mine

set_option Elab.async false
set_option linter.unusedVariables false
namespace Mine
open PySem PyProof.Rows

noncomputable def ArgsW (C : Cx) (k : Nat) (env : Env) (es : List Expr) (Q : List V → Hp → Prop) (R : V → Hp → Prop) (ρ : Rho) (H : Hp) : Prop :=
  ∀ A, Lv C k A → ∀ s, SimL C env ρ H s → ∀ pos, wpAny C.M A (spliced (backTo pos (starEach es env))) (Post C H s.heap VRelL Q) (Post C H s.heap VRel R) s

variable {C : Cx} {k : Nat} {env : Env} {ρ : Rho} {H : Hp} {Q R : V → Hp → Prop} {QL : List V → Hp → Prop}

theorem ArgsW.nil (h : QL [] H) : ArgsW C k env [] QL R ρ H := fun A a s S pos => args_nil (Post.here h S.sim .nil rfl)
theorem ArgsW.cons {e rest} (h : EvalW C k env e (fun v H₁ => ArgsW C k env rest (fun vs H₂ => QL (v :: vs) H₂) R ρ H₁) R ρ H)
    (he : starEach (e :: rest) env = (false, eval e env) :: starEach rest env := by rfl) : ArgsW C k env (e :: rest) QL R ρ H := fun A a s S pos => by
  refine args_cons ?_ he
  refine wp_go (h A a s S) fun x v H₁ s₁ h₁ S₁ r₁ E₁ => wp_go (h₁ A a s₁ (S.ext S₁ E₁) pos) (fun xs vs H₂ s₂ h₂ S₂ r₂ E₂ => ?_) fun _ _ p => p.after E₁
  exact ⟨_, H₂, h₂, S₂, .cons (r₁.ext E₂) r₂, E₁.trans E₂⟩

theorem evalArgs_any {M : Model} {A : Around} {E : Value → Shared → Prop} {s : Shared} {f : Value} {args : List (Bool × Sem Value)} {Q : Args → Shared → Prop} (hplain : args.any (·.1) = false)
    (h : wpAny M A (spliced args) (fun vs s' => Q ⟨vs, []⟩ s') E s) : wpAny M A (evalArgs f true args []) Q E s := by
  cases args with
  | nil =>
    unfold evalArgs
    show wpAny M A (spliced [] >>= _) Q E s
    refine wpAny_bind (wpAny_mono h (fun vs s' h' => ?_) fun _ _ x => x)
    refine wpAny_holding ?_
    exact wpAny_bind (wpAny_pure (wpAny_bind (wpAny_pure (wpAny_pure h'))))
  | cons x rest =>
    obtain ⟨b, x⟩ := x
    have : b = false := by simp at hplain; exact hplain.1
    subst this
    exact Calls.evalArgs_plain h

noncomputable def Plainly (C : Cx) (f : Value) : Prop :=
  ∀ (A : Around) (E : Value → Shared → Prop) (Q : Value → Shared → Prop) (s : Shared) (first : List Value) (pos : Pos) (args : List (Bool × Sem Value)), args.any (·.1) = false →
    wpAny C.M A (spliced args) (fun vs s₁ => (∀ b o, C.base.get? b = some o → s₁.heap.get? b = some o) ∧ wpAny C.M A (call f (first ++ vs)) Q E s₁) E s → wpAny C.M A (callWith pos f first args []) Q E s
theorem Plainly.builtin (id : String) : Plainly C (.builtin id) := fun A E Q s first pos args hp h =>
  Calls.callWith_builtin hp (evalArgs_any hp (wpAny_mono h (fun _ _ x => x.2) fun _ _ x => x))
theorem Plainly.type (T : String) : Plainly C (.type T) := fun A E Q s first pos args hp h =>
  PySem.callWith_type hp (evalArgs_any hp (wpAny_mono h (fun _ _ x => x.2) fun _ _ x => x))
theorem Plainly.fn {a : Addr} {o : Obj} {fd : FuncData} (ho : C.base.get? a = some o) (hd : o.data = .func fd) : Plainly C (.ref a) := fun A E Q s first pos args hp h =>
  Calls.callWith_function (o := o) (fd := fd) (evalArgs_any hp (wpAny_mono h (fun _ _ x => ⟨⟨x.1 _ _ ho, hd⟩, x.2⟩) fun _ _ x => x))
theorem backTo_plain {pos : Pos} : ∀ {l : List (Bool × Sem Value)}, l.any (·.1) = false → (backTo pos l).any (·.1) = false
  | [], _ => rfl
  | (b, t) :: r, h => by
    have h' : (b || r.any (·.1)) = false := h
    have hb : b = false := by revert h'; cases b <;> simp
    subst hb
    show (false || (backTo pos r).any (·.1)) = false
    rw [backTo_plain (by simpa using h')]; rfl

theorem EvalW.call {f args pos} (h : EvalW C k env f (fun v H₁ => ∃ u, v = .con u ∧ Plainly C u ∧ ArgsW C k env args (fun vs H₂ => CallW C k u vs Q R H₂) R ρ H₁) R ρ H)
    (he : eval (.Call f args [] pos) env = (do callWith pos (← eval f env) [] (backTo pos (starEach args env)) (backToKw pos (keywordEach [] env))) := by rfl)
    (hp : (starEach args env).any (·.1) = false := by rfl) : EvalW C k env (.Call f args [] pos) Q R ρ H := fun A a s S => by
  refine Call_ (wp_go (h A a s S) fun x v H₁ s₁ h₁ S₁ r₁ E₁ => ?_) he
  obtain ⟨u, rfl, pl, h₁⟩ := h₁
  have hx : x = u := by cases r₁; rfl
  subst hx
  refine pl A _ _ s₁ [] pos _ (backTo_plain hp) (wp_go (h₁ A a s₁ (S.ext S₁ E₁) pos) (fun xs vs H₂ s₂ h₂ S₂ r₂ E₂ => ⟨S₂.keep, ?_⟩) fun _ _ p => p.after E₁)
  exact wp_fin (E₁.trans E₂) (h₂ A a s₂ xs S₂ r₂)

theorem EvalW.callName {x p args pos f} (g : GlobalV C x (.con f)) (pl : Plainly C f) (hk : env.kindOf x = some .globalImplicit) (h : ArgsW C k env args (fun vs H₂ => CallW C k f vs Q R H₂) R ρ H)
    (hd : (x == ("__debug__" : Str)) = false := by decide) (hp : (starEach args env).any (·.1) = false := by rfl) : EvalW C k env (.Call (.Name x p) args [] pos) Q R ρ H :=
  EvalW.call (EvalW.global g ⟨f, rfl, pl, h⟩ hk hd) rfl hp

noncomputable def MethIs (C : Cx) (H : Hp) (v : V) (name : Str) (f : Value) : Prop :=
  ∀ (A : Around) (s : Shared) (x : Value) (pl : Sem Bool) (Q : Value × List Value → Shared → Prop) (E : Value → Shared → Prop), Sim C H s → VRel s.heap H v x → Q (f, [x]) s → wpAny C.M A (getMethod x name pl) Q E s

theorem EvalW.method {o name apos args pos pl} (h : EvalW C k env o (fun v H₁ => ∃ f, MethIs C H₁ v name f ∧ Plainly C f ∧ ArgsW C k env args (fun vs H₂ => CallW C k f (v :: vs) Q R H₂) R ρ H₁) R ρ H)
    (he : eval (.Call (.Attribute o name apos) args [] pos) env = (do
      let ov ← eval o env
      standAt apos.atName
      let (f, first) ← holding [ov] (getMethod ov name pl)
      callWith pos f first (backTo pos (starEach args env)) []) := by rfl)
    (hp : (starEach args env).any (·.1) = false := by rfl) : EvalW C k env (.Call (.Attribute o name apos) args [] pos) Q R ρ H := fun A a s S => by
  refine MethodCall_ (pl := pl) (wp_go (h A a s S) fun x v H₁ s₁ h₁ S₁ r₁ E₁ => ?_) he
  obtain ⟨f, hm, hpl, h₁⟩ := h₁
  refine hm A s₁ x _ _ _ S₁ r₁ ?_
  refine hpl A _ _ s₁ [x] pos _ (backTo_plain hp) (wp_go (h₁ A a s₁ (S.ext S₁ E₁) pos) (fun xs vs H₂ s₂ h₂ S₂ r₂ E₂ => ⟨S₂.keep, ?_⟩) fun _ _ p => p.after E₁)
  exact wp_fin (E₁.trans E₂) (h₂ A a s₂ (x :: xs) S₂ (.cons (r₁.ext E₂) r₂))

theorem EvalW.tuple {es n p} (h : ArgsW C k env es (fun vs H₁ => Q (.tup vs) H₁ ∧ vs.length ≤ 1000) R ρ H) : EvalW C k env (.Tuple es n p) Q R ρ H := fun A a s S => by
  refine Tuple_ (wp_go (h A a s S p) fun xs vs H₁ s₁ h₁ S₁ r₁ E₁ => ?_)
  have e1 : xs.length = vs.length := r₁.length
  have hk : ∀ b o, s₁.heap.get? b = some o → (s₁.heap.push { cls := .type "tuple", data := .seq xs.toArray }).get? b = some o := fun b o e => Heap.get?_push_of_some _ e
  refine wpAny_newObj_type (?_) (by show xs.toArray.size ≤ sizeLine; rw [List.size_toArray, e1]; exact Nat.le_trans h₁.2 (by decide))
  refine ⟨.tup vs, H₁, h₁.1, S₁.grown (s' := { s₁ with heap := s₁.heap.push _ }) hk rfl rfl, .tup ⟨_, Heap.get?_push_size _ rfl, rfl, _, rfl⟩ (S₁.fresh (Nat.le_refl _)) (r₁.ext (Ext.grown hk)), E₁.trans (Ext.grown hk)⟩

theorem Sim.alloc {C : Cx} {H : Hp} {s s' : Shared} {o : O} (S : Sim C H s) (hk : ∀ a o, s.heap.get? a = some o → s'.heap.get? a = some o) (hg : s'.gens = s.gens) (ho : s'.os = s.os)
    (hr : ORel C s'.heap (H.set s.heap.objs.size o) s.heap.objs.size o) : Sim C (H.set s.heap.objs.size o) s' ∧ Ext H s.heap (H.set s.heap.objs.size o) s'.heap := by
  have E : Ext H s.heap (H.set s.heap.objs.size o) s'.heap := by
    refine ⟨fun a ob e _ => .of (hk a ob e), fun a ob e n => ?_, fun a ob e => ⟨ob, hk a ob e⟩⟩
    unfold Hp.set
    rw [if_neg (Nat.ne_of_lt (Heap.lt_size e))]; exact n
  refine ⟨⟨fun a o e => hk a o (S.keep a o e), hg.trans S.gens, ho.trans S.os, fun a o' e => ?_, fun a e => ?_, S.frs.keep fun L o _ _ e n _ => ⟨E.grow L o e n, hk L o e⟩⟩, E⟩
  · unfold Hp.set at e
    split at e
    · rename_i q; subst q; cases e; exact hr
    · have r := S.objs a o' e
      obtain ⟨ob', e'⟩ := r.lt
      exact r.same E.v ((hk a ob' e').trans e'.symm)
  · unfold Hp.set at e
    split at e
    · rename_i q; subst q; exact ⟨S.freshB (Nat.le_refl _), S.freshS (Nat.le_refl _)⟩
    · exact S.new a e

theorem newList_W {A : Around} {xs : List Value} {vs : List V} {s : Shared} {E : Value → Shared → Prop} {P : Value → Shared → Prop} (S : Sim C H s) (r : VRelL s.heap H vs xs) (hn : vs.length ≤ 1000)
    (h : ∀ a s', H a = none → Sim C (H.set a (.list vs)) s' → Ext H s.heap (H.set a (.list vs)) s'.heap → P (.ref a) s') : wpAny C.M A (newList xs) P E s := by
  have e1 : xs.length = vs.length := r.length
  have hk : ∀ b o, s.heap.get? b = some o → (s.heap.push { cls := .type "list", data := .seq xs.toArray }).get? b = some o := fun b o e => Heap.get?_push_of_some _ e
  refine wpAny_newObj_type (?_) (by show xs.toArray.size ≤ sizeLine; rw [List.size_toArray, e1]; exact Nat.le_trans hn (by decide))
  have E0 : Ext H s.heap (H.set s.heap.objs.size (.list vs)) (s.heap.push { cls := .type "list", data := .seq xs.toArray }) :=
    ⟨fun a ob e _ => .of (hk a ob e), fun a ob e n => by unfold Hp.set; rw [if_neg (Nat.ne_of_lt (Heap.lt_size e))]; exact n, fun a ob e => ⟨ob, hk a ob e⟩⟩
  obtain ⟨S', E'⟩ := S.alloc (s' := { s with heap := s.heap.push { cls := .type "list", data := .seq xs.toArray } }) hk rfl rfl (o := .list vs) ⟨xs.toArray, ⟨_, Heap.get?_push_size _ rfl⟩, by simpa using r.ext E0⟩
  exact h _ _ (S.fresh (Nat.le_refl _)) S' E'
theorem EvalW.list {es p} (h : ArgsW C k env es (fun vs H₁ => vs.length ≤ 1000 ∧ ∀ a, H₁ a = Option.none → Q (.ref a) (H₁.set a (.list vs))) R ρ H) : EvalW C k env (.List es p) Q R ρ H := fun A a s S =>
  List_ (wp_go (h A a s S p) fun xs vs H₁ s₁ h₁ S₁ r₁ E₁ => newList_W S₁ r₁ h₁.1 fun b s' n S' E' => ⟨.ref b, _, h₁.2 b n, S', .ref b, E₁.trans E'⟩)
theorem EvalW.list_fz {es p} (h : ArgsW C k env es (fun vs H₁ => vs.length ≤ 1000 ∧ Q (.lst vs) H₁) R ρ H) : EvalW C k env (.List es p) Q R ρ H := fun A a s S => by
  refine List_ (wp_go (h A a s S p) fun xs vs H₁ s₁ h₁ S₁ r₁ E₁ => ?_)
  have e1 : xs.length = vs.length := r₁.length
  have hk : ∀ b o, s₁.heap.get? b = some o → (s₁.heap.push { cls := .type "list", data := .seq xs.toArray }).get? b = some o := fun b o e => Heap.get?_push_of_some _ e
  refine wpAny_newObj_type (?_) (by show xs.toArray.size ≤ sizeLine; rw [List.size_toArray, e1]; exact Nat.le_trans h₁.1 (by decide))
  refine ⟨.lst vs, H₁, h₁.2, S₁.grown (s' := { s₁ with heap := s₁.heap.push _ }) hk rfl rfl, .lst ⟨_, Heap.get?_push_size _ rfl, rfl, _, rfl⟩ (S₁.fresh (Nat.le_refl _)) (r₁.ext (Ext.grown hk)), E₁.trans (Ext.grown hk)⟩

end Mine

set_option Elab.async false
set_option linter.unusedVariables false
namespace Mine
open PySem PyProof.Rows

noncomputable def ExtW (H : Hp) (h : Heap) (H' : Hp) (h' : Heap) : Prop :=
  ∀ a o, h.get? a = some o → H a = none → (∀ es n, o.data ≠ .dict es n) → (∀ v, o.data ≠ .cell v) → h'.get? a = some o ∧ H' a = none
theorem Ext.w {H h H' h'} (E : Ext H h H' h') : ExtW H h H' h' := fun a o e n d _ => ⟨(E.keep a o e n).exact d, E.grow a o e n⟩
theorem ExtW.trans {H h H' h' H'' h''} (x : ExtW H h H' h') (y : ExtW H' h' H'' h'') : ExtW H h H'' h'' :=
  fun a o e n d c => let ⟨e1, n1⟩ := x a o e n d c; y a o e1 n1 d c
theorem ExtW.v {H h H' h'} (E : ExtW H h H' h') : ExtV H h H' h' := fun a o xs m e d n => let ⟨x, y⟩ := E a o e n (fun _ _ q => by rw [d] at q; cases q) (fun _ q => by rw [d] at q; cases q); ⟨.of x, y⟩
theorem ExtF.w {C : Cx} {env : Env} {ρ : Rho} {H H' : Hp} {s : Shared} {h' : Heap} (S : SimL C env ρ H s) (E : ExtF env H s.heap H' h') : ExtW H s.heap H' h' := fun a o e n d c => by
  obtain ⟨m, cm, F, _⟩ := S.frm
  refine ⟨(E.keep a o e n (fun q => ?_) (fun x q => ?_)).exact d, E.grow a o e n⟩
  · subst q; obtain ⟨oL, es, ep, eL, dL, _⟩ := F.ns; rw [eL] at e; cases e; exact d _ _ dL
  · obtain ⟨oc, ec, dc⟩ := F.cell x a q; rw [ec] at e; cases e; exact c _ dc

structure Moved (wr : List Addr) (s s' : Shared) : Prop where
  keep : ∀ b o, b ∉ wr → s.heap.get? b = some o → s'.heap.get? b = some o
  gens : s'.gens = s.gens
  os : s'.os = s.os

structure Tmp (C : Cx) (H : Hp) (wr : List Addr) (h : Heap) : Prop where
  fld : ∀ b ∈ wr, ∃ o fs, h.get? b = some o ∧ o.data = .fields fs
  own : ∀ b ∈ wr, H b = none
  new : ∀ b ∈ wr, C.base.get? b = none

theorem Moved.extV {C H wr s s'} (T : Tmp C H wr s.heap) (M : Moved wr s s') : ExtV H s.heap H s'.heap := fun a o xs n e d m =>
  ⟨.of (M.keep a o (fun q => by obtain ⟨o', fs, e', d'⟩ := T.fld a q; rw [e'] at e; cases e; rw [d'] at d; cases d) e), m⟩
theorem Sim.moved {C H wr s s'} (S : Sim C H s) (T : Tmp C H wr s.heap) (M : Moved wr s s') : Sim C H s' := by
  refine ⟨fun a o e => M.keep a o (fun q => ?_) (S.keep a o e), M.gens.trans S.gens, M.os.trans S.os, fun a o e => ?_, S.new, S.frs.keep fun L o _ _ e n d => ⟨n, M.keep L o (fun q => by obtain ⟨o', fs, e', d'⟩ := T.fld L q; rw [e'] at e; cases e; rw [d'] at d; cases d) e⟩⟩
  · rw [T.new a q] at e; cases e
  · have r := S.objs a o e
    obtain ⟨ob', e'⟩ := r.lt
    exact r.same (M.extV T) ((M.keep a ob' (fun q => by rw [T.own a q] at e; cases e) e').trans e'.symm)
theorem SimL.moved {C env ρ H wr s s'} (S : SimL C env ρ H s) (T : Tmp C H wr s.heap) (M : Moved wr s s') : SimL C env ρ H s' := by
  obtain ⟨m, cm, F, r⟩ := S.frm
  refine ⟨S.sim.moved T M, S.kind, S.globals, S.builtins, m, cm, ⟨?_, fun n c e => ?_, F.own, F.ownc, F.above, F.abovec, F.apart⟩, fun x v e => (r x v e).extV (M.extV T)⟩
  · obtain ⟨oL, es, ep, eL, dL, rL⟩ := F.ns
    exact ⟨oL, es, ep, M.keep _ _ (fun q => by obtain ⟨o', fs, e', d'⟩ := T.fld _ q; rw [e'] at eL; cases eL; rw [d'] at dL; cases dL) eL, dL, rL⟩
  · obtain ⟨oc, ec, dc⟩ := F.cell n c e
    exact ⟨oc, M.keep _ _ (fun q => by obtain ⟨o', fs, e', d'⟩ := T.fld _ q; rw [e'] at ec; cases ec; rw [d'] at dc; cases dc) ec, dc⟩
theorem ExtF.moved {env H h₀ H₁ wr s s'} (E : ExtF env H h₀ H₁ s.heap) (M : Moved wr s s') (hn : ∀ b ∈ wr, h₀.get? b = none) : ExtF env H h₀ H₁ s'.heap := by
  have hb : ∀ a o, h₀.get? a = some o → a ∉ wr := fun a o e q => by rw [hn a q] at e; cases e
  exact ⟨fun a o e n n1 n2 => (E.keep a o e n n1 n2).trans fun o' e' => .of (M.keep a o' (hb a o e) e'), E.grow, fun a o e => let ⟨o', e'⟩ := E.live a o e; ⟨o', M.keep a o' (hb a o e) e'⟩⟩
theorem Ext.moved {H h₀ H₁ wr s s'} (E : Ext H h₀ H₁ s.heap) (M : Moved wr s s') (hn : ∀ b ∈ wr, h₀.get? b = none) : Ext H h₀ H₁ s'.heap := by
  have hb : ∀ a o, h₀.get? a = some o → a ∉ wr := fun a o e q => by rw [hn a q] at e; cases e
  exact ⟨fun a o e n => (E.keep a o e n).trans fun o' e' => .of (M.keep a o' (hb a o e) e'), E.grow, fun a o e => let ⟨o', e'⟩ := E.live a o e; ⟨o', M.keep a o' (hb a o e) e'⟩⟩
noncomputable def IsTupleE (tup : Bool) (target : Expr) : Prop := tup = true → ∃ es n p, target = .Tuple es n p

structure ItrOK (C : Cx) (tup : Bool) (I : Addr) (wr : List Addr) (St : List V → Hp → Heap → Prop) (cond : Hp → Prop) : Prop where
  tmp : ∀ r H h, St r H h → Tmp C H wr h
  next : ∀ A, A.units + 1 < cLine → ∀ s v r H (P : Option Value → Shared → Prop) (E : Value → Shared → Prop), Sim C H s → cond H → St (v :: r) H s.heap →
    (∀ x s', (∀ target, IsTupleE tup target → ∀ (P' : Unit → Shared → Prop), (∀ s'', VRel s''.heap H v x → St r H s''.heap → Moved wr s s'' → P' () s'') → wpAny C.M A (letOwnedTupleGo target (.ref I) x) P' E s') → P (some x) s') → wpAny C.M A (pyNext (.ref I)) P E s
  done : ∀ A s H (P : Option Value → Shared → Prop) (E : Value → Shared → Prop), A.handled = none → A.units + 1 < cLine → Sim C H s → cond H → St [] H s.heap → (∀ s', Moved wr s s' → P none s') → wpAny C.M A (pyNext (.ref I)) P E s
  self : ∀ A s r H (P : Value → Shared → Prop) (E : Value → Shared → Prop), St r H s.heap → P (.ref I) s → wpAny C.M A (pyIter (.ref I)) P E s
  frame : ∀ r H h H' h', St r H h → ExtW H h H' h' → cond H' → St r H' h'

noncomputable def AssignW (C : Cx) (k : Nat) (env : Env) (target : Expr) (v : V) (Q : Rho → Prop) (ρ : Rho) (H : Hp) : Prop :=
  ∀ A, Lv C k A → ∀ s x, SimL C env ρ H s → VRel s.heap H v x → ∀ (P : Unit → Shared → Prop) E, (∀ ρ' s', Q ρ' → SimL C env ρ' H s' → ExtF env H s.heap H s'.heap → P () s') → wpAny C.M A (assign target env x) P E s

variable {C : Cx} {k : Nat} {env : Env} {ρ : Rho} {H : Hp}

theorem AssignW.name {x p v} {Q : Rho → Prop} (hk : Storable env x) (h : Q (ρ.set x v)) : AssignW C k env (.Name x p) v Q ρ H := fun A a s u S r P E hP =>
  wpAny_assign_Name (store_W hk S r fun s' S' E' _ => hP _ s' h S' E')

inductive StA (env : Env) : List Expr → List Str → Prop
  | nil : StA env [] []
  | cons {x : Str} {p : Pos} {es : List Expr} {xs : List Str} (hx : Storable env x) (hr : StA env es xs) : StA env (.Name x p :: es) (x :: xs)
noncomputable def setAll (ρ : Rho) : List Str → List V → Rho
  | x :: r, v :: t => setAll (ρ.set x v) r t
  | _, _ => ρ
theorem assignEach_length {es : List Expr} {xs : List Str} (h : StA env es xs) : (assignEach es env).length = xs.length ∧ (assignEach es env).findIdx? (·.1) = none := by
  induction h with
  | nil => exact ⟨rfl, rfl⟩
  | @cons x p es xs hx hr ih =>
    obtain ⟨a, b⟩ := ih
    refine ⟨by show (assignEach es env).length + 1 = _; rw [a]; rfl, ?_⟩
    show List.findIdx? (·.1) ((false, assign (.Name x p) env) :: assignEach es env) = none
    rw [List.findIdx?_cons, b]; rfl
theorem assignInOrder_W {A : Around} {E : Value → Shared → Prop} {P : Unit → Shared → Prop} {es : List Expr} {xs : List Str} (hst : StA env es xs) : ∀ (vs : List V) (us : List Value) (ρ : Rho) (s : Shared), vs.length = xs.length → SimL C env ρ H s → VRelL s.heap H vs us →
    (∀ s', SimL C env (setAll ρ xs vs) H s' → ExtF env H s.heap H s'.heap → P () s') → wpAny C.M A (assignInOrder ((assignEach es env).map (·.2)) us) P E s := by
  induction hst with
  | nil =>
    intro vs us ρ s hl S r h
    cases vs with
    | nil => cases r; exact wpAny_pure (h s S (ExtF.refl _ _ _))
    | cons v t => cases hl
  | @cons x p es xs hx hr ih =>
    intro vs us ρ s hl S r h
    cases r with
    | nil => cases hl
    | @cons v u vs us rv rl =>
      show wpAny C.M A (assignInOrder (assign (.Name x p) env :: (assignEach es env).map (·.2)) (u :: us)) P E s
      unfold assignInOrder
      refine wpAny_bind (wpAny_holding (wpAny_assign_Name (store_W hx S rv fun s' S' E' _ => ?_)))
      exact ih vs us (ρ.set x v) s' (by simpa using hl) S' (rl.extV (E'.w S).v) fun s'' S'' E'' => h s'' S'' (E'.trans E'')

theorem AssignW.tuple {es n p xs vs} {Q : Rho → Prop} (hst : StA env es xs) (hl : vs.length = xs.length) (hd : C.hd = true) (h : Q (setAll ρ xs vs)) : AssignW C k env (.Tuple es n p) (.tup vs) Q ρ H := fun A a s u S r P E hP => by
  cases r with
  | @tup ad l ys ha ho rl =>
    obtain ⟨l1, l2⟩ := assignEach_length hst
    have hz : ys.size = vs.length := by have := rl.length; simpa using this
    refine wpAny_assign_Tuple (a.handled hd) ha (l1.trans (hl.symm.trans hz.symm)) l2 fun h' he => ?_
    have hk : ∀ b o, s.heap.get? b = some o → h'.get? b = some o := fun b o e => he b o (Nat.ne_of_lt (Heap.lt_size e)) e
    have S1 : Sim C H { s with heap := h' } := S.sim.grown (s' := { s with heap := h' }) hk rfl rfl
    have SL : SimL C env ρ H { s with heap := h' } := S.ext S1 (Ext.grown hk)
    exact assignInOrder_W hst vs ys.toList ρ { s with heap := h' } hl SL (rl.ext (Ext.grown hk)) fun s' S' E' => hP _ s' h S' ((Ext.grown hk).toF.trans E')

end Mine

set_option Elab.async false
set_option linter.unusedVariables false
namespace Mine
open PySem PyProof.Rows

noncomputable def IterE (C : Cx) (k : Nat) (env : Env) (tup : Bool) (e : Expr) (K : List V → (Hp → Prop) → Hp → Prop) (R : V → Hp → Prop) (ρ : Rho) (H : Hp) : Prop :=
  ∀ A, Lv C k A → ∀ s, SimL C env ρ H s → ∀ (P : Value → Shared → Prop) (PE : Value → Shared → Prop), (∀ e s', Post C H s.heap VRel R e s' → PE e s') →
    (∀ I wr St items cond H₂ s₂, K items cond H₂ → ItrOK C tup I wr St cond → cond H₂ → St items H₂ s₂.heap → (∀ b ∈ wr, s.heap.get? b = none) → Sim C H₂ s₂ → Ext H s.heap H₂ s₂.heap → P (.ref I) s₂) →
    wpAny C.M A (eval e env) (fun x s₁ => wpAny C.M A (pyIter x) P PE s₁) PE s

variable {C : Cx} {k : Nat} {env : Env} {ρ : Rho} {H : Hp} {Q : Fl → Rho → Hp → Prop} {R : V → Rho → Hp → Prop} {RE : V → Hp → Prop}

theorem for_core {target : Expr} {body : List Stmt} {I : Addr} {wr : List Addr} {St : List V → Hp → Heap → Prop} {cond : Hp → Prop} {tup : Bool} (IT : ItrOK C tup I wr St cond) (ht : IsTupleE tup target) (hd : C.hd = true) {A : Around} (lv : Lv C k A)
    (Inv : List V → Rho → Hp → Prop) (hc : ∀ r ρ H, Inv r ρ H → cond H)
    (step : ∀ v r ρ H, Inv (v :: r) ρ H → AssignW C k env target v (fun ρ' => ExecsW C k env body (fun fl ρ'' H'' => match fl with
      | .next => Inv r ρ'' H'' | .cont => Inv r ρ'' H'' | .brk => Q .next ρ'' H'' | .ret u => Q (.ret u) ρ'' H'') (fun _ _ _ => False) ρ' H) ρ H)
    (fin : ∀ ρ H, Inv [] ρ H → Q .next ρ H)
    {h₀ : Heap} {H₀ : Hp} (hn : ∀ b ∈ wr, h₀.get? b = none) {PE : Result → Shared → Prop}
    (hPE : ∀ f s', PostS C env H₀ h₀ Q f s' → PE (.ok f) s')
    (items : List V) (s : Shared) (S : SimL C env ρ H s) (E : ExtF env H₀ h₀ H s.heap) (st : St items H s.heap) (h0 : Inv items ρ H) :
    codeAny C.M A (.forLoop target (.ref I) body [] env) PE s := by
  have hu : A.units + 1 < cLine := by have := lv.units; omega
  refine codeAny_forLoop_any (fun n s' => ∃ r ρ H, n = r.length + 1 ∧ Inv r ρ H ∧ SimL C env ρ H s' ∧ ExtF env H₀ h₀ H s'.heap ∧ St r H s'.heap) ?_ (items.length + 1) ⟨items, ρ, H, rfl, h0, S, E, st⟩
  rintro n s ⟨r, ρ, H, rfl, hI, S, E, st⟩
  have T := IT.tmp _ _ _ st
  cases r with
  | nil =>
    refine IT.done A s H _ _ (lv.handled hd) hu S.sim (hc _ _ _ hI) st fun s' M => ?_
    refine wpAny_execs_nil (hPE _ _ ⟨.next, ρ, H, fin ρ H hI, trivial, S.moved T M, E.moved M hn⟩)
  | cons v r =>
    refine IT.next A hu s v r H _ _ S.sim (hc _ _ _ hI) st fun x s' hlet => ?_
    refine hlet target ht _ fun s'' rx'' st'' M'' => ?_
    have S'' := S.moved T M''
    have E'' := E.moved M'' hn
    refine step v r ρ H hI A lv s'' x S'' rx'' _ _ fun ρ' s₃ hb S₃ E₃ => ?_
    refine wpAny_mono (hb A lv s₃ S₃) ?_ ?_
    · rintro f s₄ ⟨fl, ρ₄, H₄, q, rf, S₄, E₄⟩
      have E' := E''.trans (E₃.trans E₄)
      have st₄ : ∀ (hI' : Inv r ρ₄ H₄), St r H₄ s₄.heap := fun hI' => IT.frame _ _ _ _ _ st'' ((E₃.trans E₄).w S'') (hc _ _ _ hI')
      cases fl <;> cases f <;> first | exact rf.elim | skip
      · exact ⟨r.length + 1, by simp, r, ρ₄, H₄, rfl, q, S₄, E', st₄ q⟩
      · exact hPE _ _ ⟨.next, ρ₄, H₄, q, trivial, S₄, E'⟩
      · exact ⟨r.length + 1, by simp, r, ρ₄, H₄, rfl, q, S₄, E', st₄ q⟩
      · exact hPE _ _ ⟨.ret _, ρ₄, H₄, q, rf, S₄, E'⟩
    · rintro e s₄ ⟨_, _, _, q, _⟩; exact q.elim

theorem ExecW.while_ {test body pos} (Inv : Nat → Rho → Hp → Prop) (n : Nat) (h0 : Inv n ρ H)
    (step : ∀ n ρ H, Inv n ρ H → TestW C k env test (fun b H' => if b = true then ExecsW C k env body (fun fl ρ'' H'' => match fl with
      | .next => ∃ m, m < n ∧ Inv m ρ'' H'' | .cont => ∃ m, m < n ∧ Inv m ρ'' H'' | .brk => Q .next ρ'' H'' | .ret u => Q (.ret u) ρ'' H'') (fun _ _ _ => False) ρ H' else Q .next ρ H') (fun _ _ => False) ρ H) :
    ExecW C k env (.While test body [] pos) Q R ρ H := fun A a s₀ S₀ => by
  refine wpAny_While ?_
  refine codeAny_whileLoop (fun n s' => ∃ ρ' H', Inv n ρ' H' ∧ SimL C env ρ' H' s' ∧ ExtF env H s₀.heap H' s'.heap) ?_ n ⟨ρ, H, h0, S₀, ExtF.refl _ _ _⟩
  rintro n s ⟨ρ, H, hI, S, E⟩
  refine wpAny_mono (step n ρ H hI A a s S) ?_ ?_
  · rintro b s' ⟨b', H', q, S', rfl, E'⟩
    cases b'
    · simp only [Bool.false_eq_true, if_false] at q ⊢
      exact wpAny_execs_nil ⟨.next, ρ, H', q, trivial, S.ext S' E', E.trans E'.toF⟩
    · simp only [if_true] at q ⊢
      refine wpAny_mono (q A a s' (S.ext S' E')) ?_ ?_
      · rintro f s₄ ⟨fl, ρ₄, H₄, q, rf, S₄, E₄⟩
        have E'' := E.trans (E'.toF.trans E₄)
        cases fl <;> cases f <;> first | exact rf.elim | skip
        · obtain ⟨m, hm, q⟩ := q; exact ⟨m, hm, ρ₄, H₄, q, S₄, E''⟩
        · exact ⟨.next, ρ₄, H₄, q, trivial, S₄, E''⟩
        · obtain ⟨m, hm, q⟩ := q; exact ⟨m, hm, ρ₄, H₄, q, S₄, E''⟩
        · exact ⟨.ret _, ρ₄, H₄, q, rf, S₄, E''⟩
      · rintro e s₄ ⟨_, _, _, q, _⟩; exact q.elim
  · rintro e s₄ ⟨_, _, q, _⟩; exact q.elim

noncomputable def lview (H : Hp) : V → Option (List V)
  | .lst l => some l
  | .ref a => match H a with
    | some (.list l) => some l
    | _ => none
  | _ => none
theorem lview_list {s : Shared} {v : V} {l : List V} {x : Value} (hl : lview H v = some l) (S : Sim C H s) (r : VRel s.heap H v x) : ∃ a xs, x = .ref a ∧ s.heap.IsList a xs ∧ VRelL s.heap H l xs.toList := by
  cases r with
  | lst ha ho rl => cases hl; exact ⟨_, _, rfl, ha, rl⟩
  | ref a =>
    simp only [lview] at hl
    split at hl
    · rename_i l' e
      cases hl
      obtain ⟨xs, h1, h2⟩ := S.objs _ _ e
      exact ⟨a, xs, rfl, h1.isList, h2⟩
    · cases hl
  | _ => cases hl

noncomputable def lcond (v : V) (l : List V) : Hp → Prop := fun H => lview H v = some l
theorem itr_list {tup : Bool} {v : V} {l : List V} {a : Addr} {I : Addr} (hv : v = .lst l ∨ v = .ref a) (hI : C.base.get? I = none) :
    ItrOK C tup I [I] (fun r H h => ∃ i, h.IsListIter I a i ∧ H I = none ∧ VRel h H v (.ref a) ∧ r = l.drop i ∧ i ≤ l.length) (lcond v l) where
  tmp := by
    rintro r H h ⟨i, ⟨o, e, c, d⟩, n, _⟩
    exact ⟨fun b hb => by simp at hb; subst hb; exact ⟨o, _, e, d⟩, fun b hb => by simp at hb; subst hb; exact n, fun b hb => by simp at hb; subst hb; exact hI⟩
  next := by
    rintro A hu1 s u r H P E S hc ⟨i, hit, n, rv, hr, hi⟩ hP
    obtain ⟨a', xs, ea, hl, rl⟩ := lview_list hc S rv
    cases ea
    have hu : l[i]? = some u := by
      have := congrArg List.head? hr
      simpa [List.head?_drop] using this.symm
    have hlt : i < l.length := (List.getElem?_eq_some_iff.mp hu).1
    have hrest : r = l.drop (i + 1) := by
      have := congrArg List.tail hr
      simpa [List.tail_drop] using this
    obtain ⟨x, ex, rx⟩ := rl.get hu
    have haI : a ≠ I := fun q => by
      subst q
      obtain ⟨o, e, c, _⟩ := hit
      obtain ⟨o', e', c', _⟩ := hl
      rw [e] at e'; cases e'; rw [c] at c'; exact absurd c' (by decide)
    refine wpAny_pyNext_list_item hit hl (by simpa using ex) fun h' hit' hs => ?_
    have M : Moved [I] s { s with heap := h' } := ⟨fun b o hb e => hs.extBut b o (fun q => hb (by simp [q])) e, rfl, rfl⟩
    · have T : Tmp C H [I] s.heap := by
        obtain ⟨o, e, c, d⟩ := hit
        exact ⟨fun b hb => by simp at hb; subst hb; exact ⟨o, _, e, d⟩, fun b hb => by simp at hb; subst hb; exact n, fun b hb => by simp at hb; subst hb; exact hI⟩
      have V1 := M.extV T
      have st' : ∃ j, h'.IsListIter I a j ∧ H I = none ∧ VRel h' H v (.ref a) ∧ r = l.drop j ∧ j ≤ l.length := ⟨i + 1, hit', n, rv.extV V1, hrest, hlt⟩
      refine hP x _ fun target _ P' hP' => ?_
      have : wpAny C.M A (letOwnedTupleGo target (.ref I) x) P' E { s with heap := h' } := by
        have hend := hP' { s with heap := h' } (rx.extV V1) st' M
        unfold letOwnedTupleGo
        split
        · cases x <;> first | exact wpAny_pure hend | skip
          obtain ⟨o, e, c, d⟩ := hit'
          refine wpAny_bind (wpAny_load e ?_)
          rw [c, d]
          dsimp only
          rw [if_neg (by simp)]
          exact wpAny_pure hend
        · cases x <;> first | exact wpAny_pure hend | skip
          obtain ⟨o, e, c, d⟩ := hit'
          refine wpAny_bind (wpAny_load e ?_)
          rw [c, d]
          dsimp only
          rw [if_neg (by simp)]
          exact wpAny_pure hend
        · exact wpAny_pure hend
      exact this
  done := by
    rintro A s H P E hh hu S hc ⟨i, hit, n, rv, hr, hi⟩ hP
    obtain ⟨a', xs, ea, hl, rl⟩ := lview_list hc S rv
    cases ea
    have hlen : xs.size = l.length := by have := rl.length; simpa using this
    have hx : xs[i]? = none := by
      have : l.length ≤ i := by
        have := congrArg List.length hr
        simp at this; omega
      simp; omega
    refine wpAny_pyNext_list_end hh hit hl hx fun h' he => ?_
    exact hP _ ⟨fun b o hb e => he b o (fun q => hb (by simp [q])) e, rfl, rfl⟩
  self := by
    rintro A s r H P E ⟨i, hit, _⟩ hP
    exact wpAny_pyIter_listiter hit hP
  frame := by
    rintro r H h H' h' ⟨i, ⟨o, e, c, d⟩, n, rv, hr, hi⟩ E hc
    have := E I o e n (fun _ _ q => by rw [d] at q; cases q) (fun _ q => by rw [d] at q; cases q)
    exact ⟨i, ⟨o, this.1, c, d⟩, this.2, rv.extV E.v, hr, hi⟩

end Mine

set_option Elab.async false
set_option linter.unusedVariables false
namespace Mine
open PySem PyProof.Rows

variable {C : Cx} {k : Nat} {env : Env} {ρ : Rho} {H : Hp} {R : V → Hp → Prop}

theorem Ext.new_none {H h H' h' a} (E : Ext H h H' h') (ha : h'.objs.size ≤ a) : h.get? a = none := by
  cases e : h.get? a with
  | none => rfl
  | some o => obtain ⟨o', e'⟩ := E.live a o e; exact absurd (Heap.lt_size e') (Nat.not_lt.mpr ha)

noncomputable def rangeV (n : Nat) : List V := (List.range n).map fun i => V.int (i : Nat)
theorem ints_get {n i : Nat} (h : i < n) : (rangeV n)[i]? = some (.int (i : Nat)) := by simp [rangeV, h]
theorem ints_length {n : Nat} : (rangeV n).length = n := by simp [rangeV]

theorem tmp_one {I : Addr} {h : Heap} {o : Obj} {fs} (e : h.get? I = some o) (d : o.data = .fields fs) (n : H I = none) (hI : C.base.get? I = none) : Tmp C H [I] h :=
  ⟨fun b hb => by simp at hb; subst hb; exact ⟨o, _, e, d⟩, fun b hb => by simp at hb; subst hb; exact n, fun b hb => by simp at hb; subst hb; exact hI⟩

theorem letGo_plain {M : Model} {A : Around} {E : Value → Shared → Prop} {s : Shared} {target : Expr} {I : Addr} {x : Value} {P' : Unit → Shared → Prop} {o : Obj} {n : String} {fs} (e : s.heap.get? I = some o) (c : o.cls = .type n) (d : o.data = .fields fs)
    (hn : (["enumerate", "zip", "dict_itemiterator", "dict_reverseitemiterator", "odict_iterator", "itertools.zip_longest", "itertools.pairwise"].contains n) = false) (h : P' () s) : wpAny M A (letOwnedTupleGo target (.ref I) x) P' E s := by
  unfold letOwnedTupleGo
  split
  · cases x <;> first | exact wpAny_pure h | skip
    refine wpAny_bind (wpAny_load e ?_)
    rw [c, d]; dsimp only
    rw [if_neg (by rw [hn]; simp)]
    exact wpAny_pure h
  · cases x <;> first | exact wpAny_pure h | skip
    refine wpAny_bind (wpAny_load e ?_)
    rw [c, d]; dsimp only
    rw [if_neg (by rw [hn]; simp)]
    exact wpAny_pure h
  · exact wpAny_pure h

theorem itr_range {tup : Bool} {N : Nat} {I : Addr} (hI : C.base.get? I = none) :
    ItrOK C tup I [I] (fun r H h => ∃ j : Nat, j ≤ N ∧ IsRangeIter h I (j : Int) ((N : Int) - (j : Int)) 1 ∧ H I = none ∧ r = (rangeV N).drop j) (fun _ => True) where
  tmp := by
    rintro r H h ⟨j, hj, e, n, _⟩
    exact tmp_one e rfl n hI
  next := by
    rintro A hu1 s u r H P E S hc ⟨j, hj, hit, n, hr⟩ hP
    have hu : (rangeV N)[j]? = some u := by
      have := congrArg List.head? hr
      simpa [List.head?_drop] using this.symm
    have hlt : j < N := by have := (List.getElem?_eq_some_iff.mp hu).1; rwa [ints_length] at this
    rw [ints_get hlt] at hu; cases hu
    have hrest : r = (rangeV N).drop (j + 1) := by
      have := congrArg List.tail hr
      simpa [List.tail_drop] using this
    refine wpAny_pyNext_range_item hit (by omega) fun h' hit' hs => ?_
    have M : Moved [I] s { s with heap := h', toks := s.toks + 1 } := ⟨fun b o hb e => hs.extBut b o (fun q => hb (by simp [q])) e, rfl, rfl⟩
    have st' : ∃ j : Nat, j ≤ N ∧ IsRangeIter h' I (j : Int) ((N : Int) - (j : Int)) 1 ∧ H I = none ∧ r = (rangeV N).drop j := by
      refine ⟨j + 1, hlt, ?_, n, hrest⟩
      have e1 : (((j + 1 : Nat)) : Int) = (j : Int) + 1 := by push_cast; rfl
      have e2 : (N : Int) - ((j + 1 : Nat) : Int) = (N : Int) - (j : Int) - 1 := by push_cast; omega
      rw [e2, e1]; exact hit'
    refine hP _ _ fun target _ P' hP' => ?_
    exact letGo_plain hit' rfl rfl (by decide) (hP' { s with heap := h', toks := s.toks + 1 } (.int _ _) st' M)
  done := by
    rintro A s H P E hh hu S hc ⟨j, hj, hit, n, hr⟩ hP
    have hle : N ≤ j := by
      have := congrArg List.length hr
      simp [ints_length] at this; omega
    refine wpAny_pyNext_range_end hh hit (by omega) fun h' he => ?_
    exact hP _ ⟨fun b o hb e => he b o (fun q => hb (by simp [q])) e, rfl, rfl⟩
  self := by
    rintro A s r H P E ⟨j, hj, hit, _⟩ hP
    exact wpAny_pyIter_rangeiter hit hP
  frame := by
    rintro r H h H' h' ⟨j, hj, hit, n, hr⟩ E hc
    have := E I _ hit n (fun _ _ q => by cases q) (fun _ q => by cases q)
    exact ⟨j, hj, this.1, this.2, hr⟩

theorem IterE.range {tup : Bool} {x p e pos} {K : List V → (Hp → Prop) → Hp → Prop} (g : GlobalV C x (.con (.type "range"))) (hk : env.kindOf x = some .globalImplicit)
    (h : EvalW C k env e (fun v H₁ => ∃ n : Int, v = .int n ∧ n < 2 ^ 62 ∧ -(2 ^ 62) ≤ n ∧ K (rangeV n.toNat) (fun _ => True) H₁) R ρ H)
    (he : starEach [e] env = [(false, eval e env)] := by rfl) (hd : (x == ("__debug__" : Str)) = false := by decide) :
    IterE C k env tup (.Call (.Name x p) [e] [] pos) K R ρ H := fun A a s S P PE hPE hP => by
  have G := EvalW.global (k := k) (env := env) (ρ := ρ) (H := H) (R := R) (p := p) (Q := fun v H' => v = .con (.type "range") ∧ H' = H) g ⟨rfl, rfl⟩ hk hd
  refine wpAny_Call_NameR (wp_go (G A a s S) (fun f v H₁ s₁ hv S₁ r₁ E₁ => ?_) hPE)
  obtain ⟨rfl, rfl⟩ := hv
  have hf : f = .type "range" := by cases r₁; rfl
  subst hf
  rw [he]
  refine PySem.callWith_type rfl (Calls.evalArgs_plain (Calls.spliced_cons (wp_go (h A a s₁ (S.ext S₁ E₁)) (fun nv v H₂ s₂ hv S₂ r₂ E₂ => Calls.spliced_nil ?_) fun _ _ p => hPE _ _ (p.after E₁))))
  obtain ⟨n, rfl, hn1, hn2, hK⟩ := hv
  cases r₂ with
  | int _ t =>
    refine call_range_1 ?_
    refine wpAny_pyIter_range (IsRange.new ..) (small_one (by decide) (by decide) hn2 hn1) ?_
    have hsz : Builtin.Range.rangeSize 0 n 1 = (n.toNat : Int) := by rw [rangeSize_one]; split <;> omega
    have hk2 : ∀ b o, s₂.heap.get? b = some o → ((s₂.heap.push { cls := .type "range", data := .fields #[.int 0 s₂.toks, .int n t, .int 1 (s₂.toks + 1)] }).push { cls := .type "range_iterator", data := .fields #[rawInt 0, rawInt (Builtin.Range.rangeSize 0 n 1), rawInt 1] }).get? b = some o :=
      fun b o e => Heap.get?_push_of_some _ (Heap.get?_push_of_some _ e)
    have hI : s₂.heap.objs.size ≤ (s₂.heap.push { cls := .type "range", data := .fields #[.int 0 s₂.toks, .int n t, .int 1 (s₂.toks + 1)] }).objs.size := by rw [Heap.size_push]; omega
    refine hP _ [_] _ _ _ _ _ hK (itr_range (N := n.toNat) (S₂.freshB hI)) trivial ⟨0, Nat.zero_le _, ?_, S₂.fresh hI, rfl⟩ ?_ (S₂.grown hk2 rfl rfl) ((E₁.trans E₂).trans (Ext.grown hk2))
    · have e2 : ((n.toNat : Int) - ((0 : Nat) : Int)) = Builtin.Range.rangeSize 0 n 1 := by rw [hsz]; simp
      rw [e2]
      exact Heap.get?_push_size _ rfl
    · intro b hb
      simp at hb; subst hb
      exact (E₁.trans E₂).new_none (by omega)

theorem IterE.list {tup : Bool} {e} {K : List V → (Hp → Prop) → Hp → Prop} (h : EvalW C k env e (fun v H₁ => ∃ l, lview H₁ v = some l ∧ K l (lcond v l) H₁) R ρ H) : IterE C k env tup e K R ρ H := fun A a s S P PE hPE hP => by
  refine wp_go (h A a s S) (fun x v H₁ s₁ hv S₁ r₁ E₁ => ?_) hPE
  obtain ⟨l, hl, hK⟩ := hv
  obtain ⟨ad, xs, rfl, hL, rl⟩ := lview_list hl S₁ r₁
  have hvv : v = .lst l ∨ v = .ref ad := by
    cases r₁ with
    | lst ha ho rl => cases hl; exact .inl rfl
    | ref a => exact .inr rfl
    | _ => cases hl
  have hk : ∀ b o, s₁.heap.get? b = some o → (s₁.heap.push { cls := .type "list_iterator", data := .fields #[.ref ad, .int 0 0] }).get? b = some o := fun b o e => Heap.get?_push_of_some _ e
  refine wpAny_pyIter_list hL ?_
  refine hP _ [_] _ _ _ _ _ hK (itr_list (a := ad) hvv (S₁.freshB (Nat.le_refl _))) hl ⟨0, ⟨_, Heap.get?_push_size _ rfl, rfl, rfl⟩, S₁.fresh (Nat.le_refl _), r₁.ext (Ext.grown hk), rfl, Nat.zero_le _⟩ ?_ (S₁.grown hk rfl rfl) (E₁.trans (Ext.grown hk))
  intro b hb; simp at hb; subst hb; exact E₁.new_none (Nat.le_refl _)

end Mine

set_option Elab.async false
set_option linter.unusedVariables false
namespace Mine
open PySem PyProof.Rows

variable {C : Cx} {k : Nat} {env : Env} {ρ : Rho} {H : Hp} {R : V → Hp → Prop}

noncomputable def enumFrom (n : Nat) : List V → List V
  | [] => []
  | v :: r => .tup [.int (n : Nat), v] :: enumFrom (n + 1) r
noncomputable def enumV (l : List V) : List V := enumFrom 0 l
theorem enumFrom_get {l : List V} : ∀ {n i : Nat}, (enumFrom n l)[i]? = (l[i]?).map fun v => V.tup [.int ((n + i : Nat) : Int), v] := by
  induction l with
  | nil => intro n i; simp [enumFrom]
  | cons v r ih =>
    intro n i
    cases i with
    | zero => simp [enumFrom]
    | succ i => simp only [enumFrom, List.getElem?_cons_succ, ih]; congr 2; funext v; congr 4; omega
theorem enumFrom_length {l : List V} : ∀ {n : Nat}, (enumFrom n l).length = l.length := by
  induction l with
  | nil => intro n; rfl
  | cons v r ih => intro n; simp [enumFrom, ih]

theorem itr_enum {v : V} {l : List V} {a e it : Addr} (hne : e ≠ it) (he0 : C.base.get? e = none) (hi0 : C.base.get? it = none) :
    ItrOK C true e [e, it] (fun r H h => ∃ (i : Nat) (old : Value), IsEnum h e it i old ∧ h.IsListIter it a i ∧ H e = none ∧ H it = none ∧ VRel h H v (.ref a) ∧ r = (enumV l).drop i ∧ i ≤ l.length) (lcond v l) where
  tmp := by
    rintro r H h ⟨i, old, e1, ⟨o, e2, c2, d2⟩, n1, n2, _⟩
    refine ⟨fun b hb => ?_, fun b hb => ?_, fun b hb => ?_⟩
    · simp at hb; rcases hb with rfl | rfl
      · exact ⟨_, _, e1, rfl⟩
      · exact ⟨o, _, e2, d2⟩
    · simp at hb; rcases hb with rfl | rfl <;> assumption
    · simp at hb; rcases hb with rfl | rfl <;> assumption
  next := by
    rintro A hu1 s u r H P E S hc ⟨i, old, he, hit, n1, n2, rv, hr, hi⟩ hP
    obtain ⟨a', xs, ea, hl, rl⟩ := lview_list hc S rv
    cases ea
    have hu : (enumV l)[i]? = some u := by
      have := congrArg List.head? hr
      simpa [List.head?_drop] using this.symm
    rw [enumV, enumFrom_get] at hu
    obtain ⟨w, hw, rfl⟩ := Option.map_eq_some_iff.mp hu
    have hlt : i < l.length := (List.getElem?_eq_some_iff.mp hw).1
    have hrest : r = (enumV l).drop (i + 1) := by
      have := congrArg List.tail hr
      simpa [List.tail_drop] using this
    obtain ⟨x, ex, rx⟩ := rl.get hw
    have T : Tmp C H [e, it] s.heap := by
      obtain ⟨o, e2, c2, d2⟩ := hit
      refine ⟨fun b hb => ?_, fun b hb => ?_, fun b hb => ?_⟩
      · simp at hb; rcases hb with rfl | rfl
        · exact ⟨_, _, he, rfl⟩
        · exact ⟨o, _, e2, d2⟩
      · simp at hb; rcases hb with rfl | rfl <;> assumption
      · simp at hb; rcases hb with rfl | rfl <;> assumption
    have heH : e < s.heap.objs.size := Heap.lt_size he
    refine wpAny_pyNext_enum_item he hit hl (by simpa using ex) hne fun h₁ heo hit₁ ht₁ hz₁ hk₁ => ?_
    have M : Moved [e, it] s { s with heap := h₁, toks := s.toks + 1 } := ⟨fun b o hb q => hk₁ b o (fun z => hb (by simp [z])) (fun z => hb (by simp [z])) q, rfl, rfl⟩
    have V1 := M.extV T
    have fr : H s.heap.objs.size = none := S.fresh (Nat.le_refl _)
    have rt : VRel h₁ H (.tup [.int ((0 + i : Nat) : Int), w]) (.ref s.heap.objs.size) := by
      rw [Nat.zero_add]
      exact .tup ⟨_, ht₁, rfl, _, rfl⟩ fr (.cons (.int _ _) (.cons (rx.extV V1) .nil))
    refine hP _ _ fun target ht P' hP' => ?_
    obtain ⟨es, n, p, rfl⟩ := ht rfl
    refine wpAny_letOwnedTupleGo_enum heo fun h₂ he₂ hs₂ => ?_
    replace hs₂ : Heap.SameBut e h₁ h₂ := hs₂
    have M2 : Moved [e, it] s { s with heap := h₂, toks := s.toks + 1 } := ⟨fun b o hb q => hs₂.extBut b o (fun z => hb (by simp [z])) (M.keep b o hb q), rfl, rfl⟩
    have V2 := M2.extV T
    refine hP' _ ?_ ⟨i + 1, x, he₂, ?_, n1, n2, rv.extV V2, hrest, hlt⟩ M2
    · rw [Nat.zero_add]
      exact .tup ⟨_, hs₂.extBut _ _ (Nat.ne_of_gt heH) ht₁, rfl, _, rfl⟩ fr (.cons (.int _ _) (.cons (rx.extV V2) .nil))
    · obtain ⟨o, q1, q2, q3⟩ := hit₁
      exact ⟨o, hs₂.extBut _ _ (Ne.symm hne) q1, q2, q3⟩
  done := by
    rintro A s H P E hh hu S hc ⟨i, old, he, hit, n1, n2, rv, hr, hi⟩ hP
    obtain ⟨a', xs, ea, hl, rl⟩ := lview_list hc S rv
    cases ea
    have hlen : xs.size = l.length := by have := rl.length; simpa using this
    have hx : xs[i]? = none := by
      have : l.length ≤ i := by
        have := congrArg List.length hr
        simp [enumV, enumFrom_length] at this; omega
      simp; omega
    refine wpAny_pyNext_enum_end hh he hit hl hx fun h' hx' => ?_
    exact hP _ ⟨fun b o hb q => hx' b o (fun z => hb (by simp [z])) q, rfl, rfl⟩
  self := by
    rintro A s r H P E ⟨i, old, he, hit, _⟩ hP
    exact wpAny_pyIter_enum he hP
  frame := by
    rintro r H h H' h' ⟨i, old, he, ⟨o, e2, c2, d2⟩, n1, n2, rv, hr, hi⟩ E hc
    have q1 := E e _ he n1 (fun _ _ q => by cases q) (fun _ q => by cases q)
    have q2 := E it o e2 n2 (fun _ _ q => by rw [d2] at q; cases q) (fun _ q => by rw [d2] at q; cases q)
    exact ⟨i, old, q1.1, ⟨o, q2.1, c2, d2⟩, q1.2, q2.2, rv.extV E.v, hr, hi⟩

theorem IterE.enum {x p e pos} {K : List V → (Hp → Prop) → Hp → Prop} (g : GlobalV C x (.con (.type "enumerate"))) (hk : env.kindOf x = some .globalImplicit)
    (h : EvalW C k env e (fun v H₁ => ∃ l, lview H₁ v = some l ∧ K (enumV l) (lcond v l) H₁) R ρ H)
    (he : starEach [e] env = [(false, eval e env)] := by rfl) (hd : (x == ("__debug__" : Str)) = false := by decide) :
    IterE C k env true (.Call (.Name x p) [e] [] pos) K R ρ H := fun A a s S P PE hPE hP => by
  have G := EvalW.global (k := k) (env := env) (ρ := ρ) (H := H) (R := R) (p := p) (Q := fun v H' => v = .con (.type "enumerate") ∧ H' = H) g ⟨rfl, rfl⟩ hk hd
  refine wpAny_Call_NameR (wp_go (G A a s S) (fun f v H₁ s₁ hv S₁ r₁ E₁ => ?_) hPE)
  obtain ⟨rfl, rfl⟩ := hv
  have hf : f = .type "enumerate" := by cases r₁; rfl
  subst hf
  rw [he]
  refine PySem.callWith_type rfl (Calls.evalArgs_plain (Calls.spliced_cons (wp_go (h A a s₁ (S.ext S₁ E₁)) (fun y v H₂ s₂ hv S₂ r₂ E₂ => Calls.spliced_nil ?_) fun _ _ p => hPE _ _ (p.after E₁))))
  obtain ⟨l, hl, hK⟩ := hv
  obtain ⟨ad, xs, rfl, hL, rl⟩ := lview_list hl S₂ r₂
  refine call_enumerate_list hL fun h' he' hit' hz' hk' => ?_
  refine wpAny_pyIter_enum he' ?_
  have E3 : Ext H₂ s₂.heap H₂ h' := Ext.grown hk'
  refine hP _ _ _ _ _ _ _ hK (itr_enum (v := v) (l := l) (a := ad) (e := s₂.heap.objs.size + 1) (it := s₂.heap.objs.size) (Nat.succ_ne_self _) (S₂.freshB (by omega)) (S₂.freshB (Nat.le_refl _))) hl
    ⟨0, _, he', hit', S₂.fresh (by omega), S₂.fresh (Nat.le_refl _), r₂.ext E3, rfl, Nat.zero_le _⟩ ?_ (S₂.grown hk' rfl rfl) ((E₁.trans E₂).trans E3)
  intro b hb
  simp at hb
  rcases hb with rfl | rfl
  · exact (E₁.trans E₂).new_none (by omega)
  · exact (E₁.trans E₂).new_none (Nat.le_refl _)

end Mine

set_option Elab.async false
set_option linter.unusedVariables false
namespace Mine
open PySem PyProof.Rows

section
variable {prog : Program} {w : World} {A : Around} {R : Result → Shared → Prop} {s : Shared}
theorem compLoop_any {elt target iter : Expr} {ifs : List Expr} {scope : Scope} {pos : Pos} {it acc : Value} {env : Env} (I : Nat → Shared → Prop)
    (turn : ∀ n s, I n s → wpAny (model prog w) A (pyNext it) (fun r s₁ => match r with
      | none => R (.ok .next) s₁
      | some v => wpAny (model prog w) A (letOwnedTupleGo target it v) (fun _ s₁' => wpAny (model prog w) A (assign target env v) (fun _ s₂ =>
          wpAny (model prog w) A (forIn ifs true fun c r => if r = true then do let ok ← isTrue c env (eval c env); pure (ForInStep.yield ok) else pure (ForInStep.yield r)) (fun ok s₃ =>
            if ok = true then wpAny (model prog w) A (eval elt env) (fun x s₄ =>
              wpAny (model prog w) A (call (.builtin "list.append") [acc, x]) (fun _ s₅ => ∃ m, m < n ∧ I m s₅) (notedBy (model prog w) A env fun e s' => R (.error e) s') s₄) (notedBy (model prog w) A env fun e s' => R (.error e) s') s₃
            else ∃ m, m < n ∧ I m s₃) (notedBy (model prog w) A env fun e s' => R (.error e) s') s₂) (notedBy (model prog w) A env fun e s' => R (.error e) s') s₁') (notedBy (model prog w) A env fun e s' => R (.error e) s') s₁) (notedBy (model prog w) A env fun e s' => R (.error e) s') s)
    (n : Nat) (h : I n s) : codeAny (model prog w) A (.compLoop (.ListComp elt [⟨target, iter, ifs, 0⟩] scope pos) 0 it acc env) R s := by
  refine codeAny_loop rfl I (fun n s hI => ?_) n h
  show wpAny _ A ((compTurn (.ListComp elt [⟨target, iter, ifs, 0⟩] scope pos) 0 it acc env).onRaise (fun x => do noteFrame x env; theTreesLotGoes x)) _ _ s
  refine wpAny_noted ?_
  rw [compTurn_list]
  refine wpAny_bind (wpAny_standAt (wpAny_bind (wpAny_mono (turn n s hI) (fun r s₁ h₁ => ?_) fun _ _ h' => h')))
  cases r with
  | none => exact wpAny_pure h₁
  | some v =>
    refine wpAny_bind (wpAny_mono h₁ (fun _ s₁' h₁ => ?_) fun _ _ h' => h')
    refine wpAny_bind (wpAny_mono h₁ (fun _ s₂ h₂ => wpAny_bind (wpAny_mono h₂ (fun ok s₃ h₃ => ?_) fun _ _ h' => h')) fun _ _ h' => h')
    cases ok with
    | false => exact wpAny_pure ⟨rfl, h₃⟩
    | true =>
      exact wpAny_bind (wpAny_bind (wpAny_mono h₃ (fun x s₄ h₄ => wpAny_bind (wpAny_mono h₄ (fun _ s₅ h₅ => wpAny_pure (wpAny_pure ⟨rfl, h₅⟩)) fun _ _ h' => h')) fun _ _ h' => h'))
end

noncomputable def IfsW (C : Cx) (k : Nat) (env : Env) (ifs : List Expr) (Q : Bool → Hp → Prop) (R : V → Hp → Prop) (ρ : Rho) (H : Hp) : Prop :=
  ∀ A, Lv C k A → ∀ s, SimL C env ρ H s → wpAny C.M A (forIn ifs true fun c r => if r = true then do let ok ← isTrue c env (eval c env); pure (ForInStep.yield ok) else pure (ForInStep.yield r)) (Post C H s.heap BRel Q) (Post C H s.heap VRel R) s

variable {C : Cx} {k : Nat} {env : Env} {ρ : Rho} {H : Hp} {Q R : V → Hp → Prop} {QB : Bool → Hp → Prop}
theorem IfsW.nil (h : QB true H) : IfsW C k env [] QB R ρ H := fun A a s S => wpAny_tests_nil (Post.here h S.sim rfl rfl)
theorem IfsW.one {c} (h : TestW C k env c QB R ρ H) : IfsW C k env [c] QB R ρ H := fun A a s S => wpAny_tests_one (h A a s S)

noncomputable def Rho.hide (scope : Scope) (ρ : Rho) : Rho := fun y => if scope.names.lookup y = some .local then none else ρ y
noncomputable def Rho.le (ρ ρ' : Rho) : Prop := ∀ y w, ρ y = some w → ρ' y = some w
theorem SimL.weaken {ρ' s} (S : SimL C env ρ' H s) (h : Rho.le ρ ρ') : SimL C env ρ H s :=
  let ⟨m, cm, F, r⟩ := S.frm; ⟨S.sim, S.kind, S.globals, S.builtins, m, cm, F, fun x v e => r x v (h x v e)⟩

noncomputable def closL (cells : List (Str × Addr)) : List (Str × NameKind) → List (Str × Addr) → List (Str × Addr)
  | [], acc => acc
  | (n, kd) :: r, acc => if kd == .free then closL cells r ((n, (cells.lookup n).getD 0) :: acc) else closL cells r acc
theorem closureFor_eq {scope : Scope} (h : ∀ x ∈ scope.names, x.2 = .free → (env.cells.lookup x.1).isSome = true) : closureFor scope env = pure (closL env.cells scope.names []) := by
  have key : ∀ (names : List (Str × NameKind)) (acc : List (Str × Addr)), (∀ x ∈ names, x.2 = .free → (env.cells.lookup x.1).isSome = true) →
      (forIn names acc fun (x : Str × NameKind) r => match x with | (name, kind) => if (kind == .free) = true then do let a ← cellOf env name; pure (ForInStep.yield ((name, a) :: r)) else pure (ForInStep.yield r) : Sem (List (Str × Addr))) = pure (closL env.cells names acc) := by
    intro names
    induction names with
    | nil => intro acc _; rfl
    | cons x r ih =>
      obtain ⟨n, kd⟩ := x
      intro acc hx
      rw [List.forIn_cons]
      unfold closL
      by_cases hk : (kd == NameKind.free) = true
      · obtain ⟨c, hc⟩ := Option.isSome_iff_exists.mp (hx (n, kd) (.head _) (by simpa using hk))
        simp only [hk, if_true]
        have : cellOf env n = pure c := by unfold cellOf; rw [hc]
        rw [this, pure_bind, pure_bind]
        simp only [hc, Option.getD_some]
        exact ih _ fun y hy => hx y (.tail _ hy)
      · simp only [hk, if_false, Bool.false_eq_true]
        rw [pure_bind]
        exact ih _ fun y hy => hx y (.tail _ hy)
  have := key scope.names [] h
  unfold closureFor
  simp only [bind_pure]
  exact this
theorem closL_lookup (cells : List (Str × Addr)) : ∀ (names : List (Str × NameKind)) (acc : List (Str × Addr)) (x : Str) (c : Addr), (∀ y ∈ names, y.2 = .free → (cells.lookup y.1).isSome = true) → (∀ y c', acc.lookup y = some c' → cells.lookup y = some c') →
    (closL cells names acc).lookup x = some c → cells.lookup x = some c
  | [], acc, x, c, _, ha, e => ha x c e
  | (n, kd) :: r, acc, x, c, hn, ha, e => by
    unfold closL at e
    split at e
    · rename_i hk
      obtain ⟨c', hc'⟩ := Option.isSome_iff_exists.mp (hn (n, kd) (.head _) (by simpa using hk))
      refine closL_lookup cells r _ x c (fun y hy => hn y (.tail _ hy)) (fun y c'' ey => ?_) e
      rw [List.lookup_cons] at ey
      split at ey
      · rename_i hb; cases ey; rw [beq_iff_eq.mp hb, hc']; rfl
      · exact ha y c'' ey
    · exact closL_lookup cells r _ x c (fun y hy => hn y (.tail _ hy)) ha e
theorem closL_isSome (cells : List (Str × Addr)) : ∀ (names : List (Str × NameKind)) (acc : List (Str × Addr)) (x : Str), (names.lookup x = some .free ∨ (acc.lookup x).isSome = true) → ((closL cells names acc).lookup x).isSome = true
  | [], acc, x, h => by rcases h with h | h; · cases h
                        · exact h
  | (y, kd) :: r, acc, x, h => by
    unfold closL
    rw [List.lookup_cons] at h
    split
    · rename_i hk
      refine closL_isSome cells r _ x ?_
      rw [List.lookup_cons]
      by_cases q : (x == y) = true
      · rw [q]; exact .inr rfl
      · have q' : (x == y) = false := by simpa using q
        rw [q'] at h ⊢; exact h
    · rename_i hk
      refine closL_isSome cells r _ x ?_
      by_cases q : (x == y) = true
      · rw [q] at h
        rcases h with h | h
        · simp only [Option.some.injEq] at h; rw [h] at hk; simp at hk
        · exact .inr h
      · have q' : (x == y) = false := by simpa using q
        rw [q'] at h; exact h

theorem lookup_relabel {env : Env} : ∀ {names : List (Str × NameKind)} {x : Str} {kd : NameKind}, (names.map fun (n, k) => if (k == NameKind.free && env.scope.kind == .function && env.kindOf n == some .cell) then (n, NameKind.cell) else (n, k)).lookup x = some kd →
    names.lookup x = some kd ∨ (names.lookup x = some .free ∧ kd = .cell)
  | [], _, _, h => by simp at h
  | (n, k) :: r, x, kd, h => by
    have ih := @lookup_relabel env r x kd
    rw [List.lookup_cons]
    rw [List.map_cons] at h
    dsimp only at h
    by_cases hc : (k == NameKind.free && env.scope.kind == .function && env.kindOf n == some .cell) = true
    · rw [if_pos hc, List.lookup_cons] at h
      cases hx : x == n with
      | true => simp only [hx, Option.some.injEq] at h; right; refine ⟨?_, h.symm⟩
                have : k = .free := by simp at hc; exact hc.1.1
                rw [this]
      | false => simp only [hx] at h ⊢; exact ih h
    · rw [if_neg hc, List.lookup_cons] at h
      cases hx : x == n with
      | true => simp only [hx] at h ⊢; exact .inl h
      | false => simp only [hx] at h ⊢; exact ih h

structure CompScope (env : Env) (scope : Scope) : Prop where
  kind : scope.kind = .function
  nocell : ∀ x ∈ scope.names, x.2 ≠ .cell
  names : ∀ x ∈ scope.names, x.2 = .local → scope.names.lookup x.1 = some .local
  free : ∀ x ∈ scope.names, x.2 = .free → (env.cells.lookup x.1).isSome = true
  frees : ∀ x, scope.names.lookup x = some .free → env.kindOf x = some .cell ∨ env.kindOf x = some .free

noncomputable abbrev cenvOf (env : Env) (scope : Scope) (L : Addr) : Env := compEnvC scope (closL env.cells scope.names []) L env

theorem comp_enter {s₃ s₄ : Shared} {scope : Scope} (cs : CompScope env scope) (S : SimL C env ρ H s₃) (hk : ∀ a o, s₃.heap.get? a = some o → s₄.heap.get? a = some o) (hg : s₄.gens = s₃.gens) (ho : s₄.os = s₃.os) {L : Addr} {m₀ : Str → Option Value}
    (hns : s₄.heap.Ns L m₀) (hL : s₃.heap.objs.size ≤ L) : SimL C (cenvOf env scope L) (Rho.hide scope ρ) H s₄ := by
  have S₄ := S.sim.grown hk hg ho
  have SL := S.ext S₄ (Ext.grown hk)
  obtain ⟨m, cm, F, r⟩ := SL.frm
  have look : ∀ x c, (closL env.cells scope.names []).lookup x = some c → env.cells.lookup x = some c := fun x c e => closL_lookup _ _ _ x c cs.free (fun y c' e => by cases e) e
  refine ⟨S₄, cs.kind, S.globals, S.builtins, m₀, cm, ⟨hns, fun n c e => F.cell n c (look n c e), S.sim.fresh hL, fun n c e => F.ownc n c (look n c e), S.sim.freshB hL, fun n c e => F.abovec n c (look n c e), fun n n' c e e' => F.apart n n' c (look n c e) (look n' c e')⟩, fun x v e => ?_⟩
  unfold Rho.hide at e
  split at e
  · cases e
  · rename_i hx
    have rx := r x v e
    unfold LocRel
    have hkind : Env.kindOf (cenvOf env scope L) x = (relabel scope env).names.lookup x := rfl
    cases q : (relabel scope env).names.lookup x with
    | none => rw [hkind, q]; trivial
    | some kd =>
      rw [hkind, q]
      rcases lookup_relabel q with q' | ⟨q', rfl⟩
      · cases kd with
        | «local» => exact absurd q' hx
        | cell => exact absurd rfl (cs.nocell (x, .cell) (mem_of_lookup q'))
        | free =>
          obtain ⟨c, hc⟩ := Option.isSome_iff_exists.mp (closL_isSome env.cells scope.names [] x (.inl q'))
          unfold LocRel at rx
          rcases cs.frees x q' with z | z <;> rw [z] at rx
          · obtain ⟨u, c', a, b, d⟩ := rx; exact ⟨u, c, hc, b, d⟩
          · obtain ⟨u, c', a, b, d⟩ := rx; exact ⟨u, c, hc, b, d⟩
        | _ => trivial
      · obtain ⟨c, hc⟩ := Option.isSome_iff_exists.mp (closL_isSome env.cells scope.names [] x (.inl q'))
        unfold LocRel at rx
        rcases cs.frees x q' with z | z <;> rw [z] at rx
        · obtain ⟨u, c', a, b, d⟩ := rx; exact ⟨u, c, hc, b, d⟩
        · obtain ⟨u, c', a, b, d⟩ := rx; exact ⟨u, c, hc, b, d⟩

end Mine

set_option Elab.async false
set_option linter.unusedVariables false
namespace Mine
open PySem PyProof.Rows

variable {C : Cx} {k : Nat} {env : Env} {ρ : Rho} {H : Hp} {Q R : V → Hp → Prop}

theorem Sim.update {s s' : Shared} {a : Addr} {o o' : O} (S : Sim C H s) (ha : H a = some o) (hs : Heap.SameBut a s.heap s'.heap) (hl : ∃ ob, s'.heap.get? a = some ob) (hg : s'.gens = s.gens) (ho : s'.os = s.os)
    (hr : ORel C s'.heap (H.set a o') a o') : Sim C (H.set a o') s' ∧ Ext H s.heap (H.set a o') s'.heap := by
  have hne : ∀ b, H b = none → b ≠ a := fun b e q => by subst q; rw [ha] at e; cases e
  have E : Ext H s.heap (H.set a o') s'.heap := by
    refine ⟨fun b ob e n => .of ((hs.2 b (hne b n)).trans e), fun b ob e n => ?_, fun b ob e => ?_⟩
    · unfold Hp.set; rw [if_neg (hne b n)]; exact n
    · by_cases q : b = a
      · subst q; exact hl
      · exact ⟨ob, (hs.2 b q).trans e⟩
  refine ⟨⟨fun b ob e => (hs.2 b fun q => ?_).trans (S.keep b ob e), hg.trans S.gens, ho.trans S.os, fun b o'' e => ?_, fun b e => ?_, S.frs.keep fun L o _ _ e n _ => ⟨E.grow L o e n, (hs.2 L (hne L n)).trans e⟩⟩, E⟩
  · subst q; rw [(S.new b (by rw [ha]; simp)).1] at e; cases e
  · unfold Hp.set at e
    split at e
    · rename_i q; subst q; cases e; exact hr
    · rename_i q
      exact (S.objs b o'' e).same E.v (hs.2 b q)
  · unfold Hp.set at e
    split at e
    · rename_i q; subst q; exact S.new b (by rw [ha]; simp)
    · exact S.new b e

theorem append_W {A : Around} {a : Addr} {l : List V} {v : V} {x : Value} {s : Shared} {E : Value → Shared → Prop} {P : Value → Shared → Prop} (S : Sim C H s) (ha : H a = some (.list l)) (hn : l.length ≤ 1000) (r : VRel s.heap H v x)
    (h : ∀ s', Sim C (H.set a (.list (l ++ [v]))) s' → Ext H s.heap (H.set a (.list (l ++ [v]))) s'.heap → P .none s') : wpAny C.M A (call (.builtin "list.append") [.ref a, x]) P E s := by
  obtain ⟨xs, hl, rl⟩ := S.objs _ _ ha
  have hz : xs.size = l.length := by have := rl.length; simpa using this
  refine wpAny_list_append_plain hl (fun h' hl' hs => ?_) (by rw [hz]; exact Nat.le_trans hn (by decide))
  have hex : ∃ ob, h'.get? a = some ob := let ⟨_, e⟩ := hl'; ⟨_, e⟩
  have hne : ∀ b, H b = none → b ≠ a := fun b e q => by subst q; rw [ha] at e; cases e
  have E0 : ExtV H s.heap (H.set a (.list (l ++ [v]))) h' := fun b ob _ _ e _ n => ⟨.of ((hs.2 b (hne b n)).trans e), by unfold Hp.set; rw [if_neg (hne b n)]; exact n⟩
  obtain ⟨S', E'⟩ := S.update (s' := { s with heap := h' }) (o' := .list (l ++ [v])) ha hs hex rfl rfl ⟨_, hl', by simpa using (rl.extV E0).append (.cons (r.extV E0) .nil)⟩
  exact h _ S' E'

noncomputable def AssignL (C : Cx) (k : Nat) (env : Env) (target : Expr) (v : V) (Q : Rho → Prop) (ρ : Rho) (H : Hp) : Prop :=
  ∀ A, Lv C k A → ∀ s x, SimL C env ρ H s → VRel s.heap H v x → ∀ (P : Unit → Shared → Prop) E, (∀ ρ' s', Q ρ' → SimL C env ρ' H s' → ExtF env H s.heap H s'.heap → (∀ a o, a ≠ env.locals → s.heap.get? a = some o → s'.heap.get? a = some o) → P () s') → wpAny C.M A (assign target env x) P E s
theorem AssignL.name {x p v} {Q : Rho → Prop} (hk : env.kindOf x = some .local) (h : Q (ρ.set x v)) : AssignL C k env (.Name x p) v Q ρ H := fun A a s u S r P E hP =>
  wpAny_assign_Name (store_local hk S r fun s' S' E' hk' _ => hP _ s' h S' E' hk')
inductive StL (env : Env) : List Expr → List Str → Prop
  | nil : StL env [] []
  | cons {x : Str} {p : Pos} {es : List Expr} {xs : List Str} (hx : env.kindOf x = some .local) (hr : StL env es xs) : StL env (.Name x p :: es) (x :: xs)
theorem StL.a {es xs} (h : StL env es xs) : StA env es xs := by
  induction h with
  | nil => exact .nil
  | cons hx hr ih => exact .cons (.inl hx) ih
theorem assignInOrder_L {A : Around} {E : Value → Shared → Prop} {P : Unit → Shared → Prop} {es : List Expr} {xs : List Str} (hst : StL env es xs) : ∀ (vs : List V) (us : List Value) (ρ : Rho) (s : Shared), vs.length = xs.length → SimL C env ρ H s → VRelL s.heap H vs us →
    (∀ s', SimL C env (setAll ρ xs vs) H s' → ExtF env H s.heap H s'.heap → (∀ a o, a ≠ env.locals → s.heap.get? a = some o → s'.heap.get? a = some o) → P () s') → wpAny C.M A (assignInOrder ((assignEach es env).map (·.2)) us) P E s := by
  induction hst with
  | nil =>
    intro vs us ρ s hl S r h
    cases vs with
    | nil => cases r; exact wpAny_pure (h s S (ExtF.refl _ _ _) fun _ _ _ e => e)
    | cons v t => cases hl
  | @cons x p es xs hx hr ih =>
    intro vs us ρ s hl S r h
    cases r with
    | nil => cases hl
    | @cons v u vs us rv rl =>
      show wpAny C.M A (assignInOrder (assign (.Name x p) env :: (assignEach es env).map (·.2)) (u :: us)) P E s
      unfold assignInOrder
      refine wpAny_bind (wpAny_holding (wpAny_assign_Name (store_local hx S rv fun s' S' E' hk' _ => ?_)))
      exact ih vs us (ρ.set x v) s' (by simpa using hl) S' (rl.extV (E'.w S).v) fun s'' S'' E'' hk'' => h s'' S'' (E'.trans E'') fun a o n e => hk'' a o n (hk' a o n e)
theorem AssignL.tuple {es n p xs vs} {Q : Rho → Prop} (hst : StL env es xs) (hl : vs.length = xs.length) (hd : C.hd = true) (h : Q (setAll ρ xs vs)) : AssignL C k env (.Tuple es n p) (.tup vs) Q ρ H := fun A a s u S r P E hP => by
  cases r with
  | @tup ad l ys ha ho rl =>
    obtain ⟨l1, l2⟩ := assignEach_length hst.a
    have hz : ys.size = vs.length := by have := rl.length; simpa using this
    refine wpAny_assign_Tuple (a.handled hd) ha (l1.trans (hl.symm.trans hz.symm)) l2 fun h' he => ?_
    have hk : ∀ b o, s.heap.get? b = some o → h'.get? b = some o := fun b o e => he b o (Nat.ne_of_lt (Heap.lt_size e)) e
    have S1 : Sim C H { s with heap := h' } := S.sim.grown (s' := { s with heap := h' }) hk rfl rfl
    have SL : SimL C env ρ H { s with heap := h' } := S.ext S1 (Ext.grown hk)
    exact assignInOrder_L hst vs ys.toList ρ { s with heap := h' } hl SL (rl.ext (Ext.grown hk)) fun s' S' E' hk' => hP _ s' h S' ((Ext.grown hk).toF.trans E') fun b o n e => hk' b o n (hk b o e)

noncomputable def compOk (env : Env) (scope : Scope) : Bool :=
  (scope.kind == .function) && scope.names.all (fun x => x.2 != .cell && (x.2 != .local || scope.names.lookup x.1 == some .local) && (x.2 != .free || ((env.cells.lookup x.1).isSome && (env.kindOf x.1 == some .cell || env.kindOf x.1 == some .free))))
theorem CompScope.of {scope : Scope} (h : compOk env scope = true) : CompScope env scope := by
  unfold compOk at h
  simp only [Bool.and_eq_true, beq_iff_eq, List.all_eq_true, Bool.or_eq_true, bne_iff_ne, ne_eq] at h
  refine ⟨h.1, fun x hx => (h.2 x hx).1.1, fun x hx hl => ?_, fun x hx hf => ?_, fun x hx => ?_⟩
  · rcases (h.2 x hx).1.2 with q | q
    · exact absurd hl q
    · exact q
  · rcases (h.2 x hx).2 with q | q
    · exact absurd hf q
    · exact q.1
  · rcases (h.2 (x, .free) (mem_of_lookup hx)).2 with q | q
    · exact absurd rfl q
    · exact q.2

theorem comp_loop {elt target iter : Expr} {ifs : List Expr} {scope : Scope} {pos : Pos} {I : Addr} {wr : List Addr} {St : List V → Hp → Heap → Prop} {cond : Hp → Prop} {tup : Bool} (IT : ItrOK C tup I wr St cond) (ht : IsTupleE tup target) (hd : C.hd = true) {A : Around} (lv : Lv C k A)
    {cenv : Env} {ρc : Rho} {D : Addr}
    (Inv : List V → List V → Hp → Prop) (hc : ∀ r acc H, Inv r acc H → cond H ∧ H D = some (.list acc) ∧ acc.length ≤ 1000)
    (step : ∀ v r acc H, Inv (v :: r) acc H → AssignL C k cenv target v (fun ρ' => Rho.le ρc ρ' ∧ IfsW C k cenv ifs (fun b H₁ => if b = true then EvalW C k cenv elt (fun u H₂ => H₂ D = some (.list acc) ∧ Inv r (acc ++ [u]) (H₂.set D (.list (acc ++ [u])))) (fun _ _ => False) ρ' H₁ else Inv r acc H₁) (fun _ _ => False) ρ' H) ρc H)
    {h₀ : Heap} {H₀ : Hp} (hn : ∀ b ∈ wr, h₀.get? b = none) (hL : h₀.get? cenv.locals = none) {PE : Result → Shared → Prop}
    (hPE : ∀ acc H s', Inv [] acc H → SimL C cenv ρc H s' → Ext H₀ h₀ H s'.heap → PE (.ok .next) s')
    (items acc : List V) (s : Shared) (S : SimL C cenv ρc H s) (E : Ext H₀ h₀ H s.heap) (st : St items H s.heap) (h0 : Inv items acc H) :
    codeAny C.M A (.compLoop (.ListComp elt [⟨target, iter, ifs, 0⟩] scope pos) 0 (.ref I) (.ref D) cenv) PE s := by
  have hu : A.units + 1 < cLine := by have := lv.units; omega
  refine compLoop_any (fun n s' => ∃ r acc H, n = r.length + 1 ∧ Inv r acc H ∧ SimL C cenv ρc H s' ∧ Ext H₀ h₀ H s'.heap ∧ St r H s'.heap) ?_ (items.length + 1) ⟨items, acc, H, rfl, h0, S, E, st⟩
  rintro n s ⟨r, acc, H, rfl, hI, S, E, st⟩
  have T := IT.tmp _ _ _ st
  cases r with
  | nil =>
    refine IT.done A s H _ _ (lv.handled hd) hu S.sim (hc _ _ _ hI).1 st fun s' M => ?_
    exact hPE acc H _ hI (S.moved T M) (E.moved M hn)
  | cons v r =>
    refine IT.next A hu s v r H _ _ S.sim (hc _ _ _ hI).1 st fun x s' hlet => ?_
    refine hlet target ht _ fun s'' rx'' st'' M'' => ?_
    have S'' := S.moved T M''
    have E'' := E.moved M'' hn
    refine step v r acc H hI A lv s'' x S'' rx'' _ _ fun ρ' s₃ hb S₃ E₃ hk₃ => ?_
    obtain ⟨hle, hb⟩ := hb
    have E₃' : Ext H₀ h₀ H s₃.heap := by
      have hb : ∀ a o, h₀.get? a = some o → a ≠ cenv.locals := fun a o e q => by rw [q, hL] at e; cases e
      exact ⟨fun a o e n => (E''.keep a o e n).trans fun o' e' => .of (hk₃ a o' (hb a o e) e'), E''.grow, fun a o e => let ⟨o', e'⟩ := E''.live a o e; ⟨o', hk₃ a o' (hb a o e) e'⟩⟩
    have st₃ : ExtW H s''.heap H s₃.heap := E₃.w S''
    refine wpAny_mono (hb A lv s₃ S₃) ?_ ?_
    · rintro b s₄ ⟨b', H₄, q, S₄, rfl, E₄⟩
      cases b'
      · simp only [Bool.false_eq_true, if_false] at q ⊢
        refine ⟨r.length + 1, by simp, r, acc, H₄, rfl, q, (S₃.ext S₄ E₄).weaken hle, E₃'.trans E₄, IT.frame _ _ _ _ _ st'' (st₃.trans E₄.w) (hc _ _ _ q).1⟩
      · simp only [if_true] at q ⊢
        refine wpAny_mono (q A lv s₄ (S₃.ext S₄ E₄)) ?_ ?_
        · rintro y s₅ ⟨u, H₅, ⟨hD, hI'⟩, S₅, r₅, E₅⟩
          have hlen : acc.length ≤ 1000 := (hc _ _ _ hI).2.2
          refine append_W S₅ hD hlen r₅ fun s₆ S₆ E₆ => ?_
          refine ⟨r.length + 1, by simp, r, acc ++ [u], _, rfl, hI', (S₃.ext S₆ (E₄.trans (E₅.trans E₆))).weaken hle, E₃'.trans (E₄.trans (E₅.trans E₆)), ?_⟩
          exact IT.frame _ _ _ _ _ st'' (st₃.trans (E₄.trans (E₅.trans E₆)).w) (hc _ _ _ hI').1
        · rintro e s₅ ⟨_, _, q, _⟩; exact q.elim
    · rintro e s₄ ⟨_, _, q, _⟩; exact q.elim

end Mine

set_option Elab.async false
set_option linter.unusedVariables false
namespace Mine
open PySem PyProof.Rows

variable {C : Cx} {k : Nat} {env : Env} {ρ : Rho} {H : Hp} {Q R : V → Hp → Prop}

structure CompInv (C : Cx) (k : Nat) (env : Env) (elt target : Expr) (ifs : List Expr) (scope : Scope) (ρ : Rho) (Inv : Addr → List V → List V → Hp → Prop) : Prop where
  len : ∀ D r acc H, Inv D r acc H → H D = some (.list acc) ∧ acc.length ≤ 1000
  step : ∀ L D v r acc H, Inv D (v :: r) acc H → AssignL C k (cenvOf env scope L) target v (fun ρ' => Rho.le (Rho.hide scope ρ) ρ' ∧
    IfsW C k (cenvOf env scope L) ifs (fun b H₁ => if b = true then EvalW C k (cenvOf env scope L) elt (fun u H₂ => H₂ D = some (.list acc) ∧ Inv D r (acc ++ [u]) (H₂.set D (.list (acc ++ [u])))) (fun _ _ => False) ρ' H₁
      else Inv D r acc H₁) (fun _ _ => False) ρ' H) (Rho.hide scope ρ) H

theorem comp_core {elt target iter : Expr} {ifs : List Expr} {scope : Scope} {pos p' : Pos} {use : Option (Value → Sem Unit)} {A : Around} (a : Lv C k A) (cs : CompScope env scope) (hd : C.hd = true) {tup : Bool} (ht : IsTupleE tup target)
    (FIN : Addr → List V → Hp → Prop)
    (h : IterE C k env tup iter (fun items cond H₁ => ∃ Inv, CompInv C k env elt target ifs scope ρ Inv ∧ (∀ D, H₁ D = none → Inv D items [] (H₁.set D (.list []))) ∧ (∀ D r acc H, Inv D r acc H → cond H) ∧ ∀ D acc H', Inv D [] acc H' → FIN D acc H') R ρ H)
    {s : Shared} (S : SimL C env ρ H s) {P : Value → Shared → Prop} {E : Value → Shared → Prop} (hE : ∀ e s', Post C H s.heap VRel R e s' → E e s')
    (fin : ∀ D acc H' s' L m, FIN D acc H' → SimL C env ρ H' s' → Ext H s.heap H' s'.heap → s'.heap.Ns L m → s.heap.get? L = none → H' L = none → C.base.get? L = none → compPost C.M A E use P (.ref D) L (.ok .next) s')
    (hs : ∀ x, foldedSetIterable iter env x = pure x) :
    wpAny C.M A (comprehension (.ListComp elt [⟨target, iter, ifs, 0⟩] scope pos) scope env p' (newList []) false (eval iter env) use) P E s := by
  refine wpAny_comprehension_free (cl := closL env.cells scope.names []) rfl hs (closureFor_eq cs.free) cs.kind cs.names ?_
  refine h A a s S _ _ hE ?_
  rintro I wr St items cond H₂ s₂ ⟨Inv, CI, hI0, hcond, hfin⟩ IT hcd st hn S₂ E₂
  refine newList_W S₂ .nil (Nat.zero_le _) fun D s₃ hD S₃ E₃ => ?_
  refine wpAny_newFunctionEnv cs.nocell (by intro y hy; simp at hy) (fun h₁ hns₁ hsb₁ => ?_) cs.kind
  have hk₃ : ∀ b o, s₃.heap.get? b = some o → h₁.get? b = some o := fun b o e => hsb₁.extBut b o (Nat.ne_of_lt (Heap.lt_size e)) (Heap.get?_push_of_some _ e)
  have hI1 := hI0 D hD
  have E02 := E₂.trans E₃
  have E04 : Ext H s.heap (H₂.set D (.list [])) h₁ := E02.trans (Ext.grown hk₃)
  have hL0 : s.heap.get? s₃.heap.objs.size = none := E02.new_none (Nat.le_refl _)
  have S₃L := S.ext S₃ E02
  have S₄ : SimL C (cenvOf env scope s₃.heap.objs.size) (Rho.hide scope ρ) (H₂.set D (.list [])) { s₃ with heap := h₁, toks := s₃.toks + ([] : List (Str × Value)).length } :=
    comp_enter (s₄ := { s₃ with heap := h₁, toks := s₃.toks + ([] : List (Str × Value)).length }) cs S₃L hk₃ rfl rfl hns₁ (Nat.le_refl _)
  have st₄ : St items (H₂.set D (.list [])) h₁ := IT.frame _ _ _ _ _ st (E₃.trans (Ext.grown hk₃)).w (hcond _ _ _ _ hI1)
  have loop : ∀ s₅ : Shared, s₅ = { s₃ with heap := h₁, toks := s₃.toks + ([] : List (Str × Value)).length } →
      codeAny C.M A (.compLoop (.ListComp elt [⟨target, iter, ifs, 0⟩] scope pos) 0 (.ref I) (.ref D) (cenvOf env scope s₃.heap.objs.size)) (compPost C.M A E use P (.ref D) s₃.heap.objs.size) s₅ := by
    rintro s₅ rfl
    refine comp_loop IT ht hd a (Inv D) (fun r acc H' hi => ⟨hcond _ _ _ _ hi, CI.len _ _ _ _ hi⟩) (fun v r acc H' hi => CI.step _ D v r acc H' hi) (h₀ := s.heap) (H₀ := H) hn hL0 ?_ items [] _ S₄ E04 st₄ hI1
    intro acc H' s' hi S' E'
    obtain ⟨m, cm, F, _⟩ := S'.frm
    exact fin D acc H' s' _ m (hfin _ _ _ hi) (S.ext S'.sim E') E' F.ns hL0 F.own F.above
  refine codeAny_compStart_list (loop _ rfl) (IT.self A _ items _ _ _ st₄ (loop _ rfl))

theorem EvalW.comp {elt target iter ifs scope pos} (tup : Bool) (cs : compOk env scope = true) (hd : C.hd = true) (ht : IsTupleE tup target)
    (h : IterE C k env tup iter (fun items cond H₁ => ∃ Inv, CompInv C k env elt target ifs scope ρ Inv ∧ (∀ D, H₁ D = Option.none → Inv D items [] (H₁.set D (.list []))) ∧ (∀ D r acc H, Inv D r acc H → cond H) ∧
      ∀ D acc H', Inv D [] acc H' → ∃ v H'', Fz H' (.ref D) v H'' ∧ Q v H'') R ρ H)
    (hs : ∀ x, foldedSetIterable iter env x = pure x := by intro _; rfl) :
    EvalW C k env (.ListComp elt [⟨target, iter, ifs, 0⟩] scope pos) Q R ρ H := fun A a s S => by
  rw [eval_ListComp]
  refine comp_core a (CompScope.of cs) hd ht _ h S (fun _ _ p => p) (fun D acc H' s' L m hi S' E' hns hL hHL hBL => ?_) hs
  refine ⟨m, hns, fun h' hsb => ?_⟩
  obtain ⟨v, H'', fz, q⟩ := hi
  obtain ⟨oL, eL, nL⟩ := ns_noseq hns
  have S'' : Sim C H' { s' with heap := h' } := S'.sim.touch (s' := { s' with heap := h' }) eL nL hHL hBL (fun a o n e => hsb.extBut a o n e) rfl rfl (.inr (.inr ⟨_, _, S.sim.frs, hL⟩))
  obtain ⟨S3, r3⟩ := fz.2 C { s' with heap := h' } (.ref D) S'' (.ref D)
  have hb : ∀ a o, s.heap.get? a = some o → a ≠ L := fun a o e q => by rw [q, hL] at e; cases e
  exact ⟨v, H'', q, S3, r3, ⟨fun a o e n => (E'.keep a o e n).trans fun o' e' => .of (hsb.extBut a o' (hb a o e) e'), fun a o e n => fz.1 a (E'.grow a o e n), fun a o e => let ⟨o', e'⟩ := E'.live a o e; ⟨o', hsb.extBut a o' (hb a o e) e'⟩⟩⟩

variable {QS : Fl → Rho → Hp → Prop} {RS : V → Rho → Hp → Prop}
theorem ExecW.assign_comp {x p' elt target iter ifs scope cpos pos} (tup : Bool) (hk : env.kindOf x = some .local) (cs : compOk env scope = true) (hd : C.hd = true) (ht : IsTupleE tup target)
    (h : IterE C k env tup iter (fun items cond H₁ => ∃ Inv, CompInv C k env elt target ifs scope ρ Inv ∧ (∀ D, H₁ D = Option.none → Inv D items [] (H₁.set D (.list []))) ∧ (∀ D r acc H, Inv D r acc H → cond H) ∧
      ∀ D acc H', Inv D [] acc H' → ∃ v H'', Fz H' (.ref D) v H'' ∧ QS .next (ρ.set x v) H'') (fun v H' => RS v ρ H') ρ H)
    (hsw : swapsWith (.ListComp elt [⟨target, iter, ifs, 0⟩] scope cpos) (some (.Name x p')) pos.line env = pure true := by rfl)
    (hs : ∀ x, foldedSetIterable iter env x = pure x := by intro _; rfl) :
    ExecW C k env (.Assign [.Name x p'] (.ListComp elt [⟨target, iter, ifs, 0⟩] scope cpos) pos) QS RS ρ H := fun A a s S => by
  have e0 : exec (.Assign [.Name x p'] (.ListComp elt [⟨target, iter, ifs, 0⟩] scope cpos) pos) env = (do
      standAt pos
      if ← swapsWith (.ListComp elt [⟨target, iter, ifs, 0⟩] scope cpos) (some (.Name x p')) pos.line env then do
        evalThenUse (.ListComp elt [⟨target, iter, ifs, 0⟩] scope cpos) env fun v => assignAll v ((assignEach [.Name x p'] env).map (·.2))
        pure .next
      else do
        let v ← eval (.ListComp elt [⟨target, iter, ifs, 0⟩] scope cpos) env
        assignStores env v (← swappedStores [.Name x p'] (.ListComp elt [⟨target, iter, ifs, 0⟩] scope cpos) env) ((assignEach [.Name x p'] env).map (·.2))) := rfl
  rw [e0, hsw]
  refine wpAny_bind (wpAny_standAt (wpAny_bind (wpAny_pure ?_)))
  simp only [if_true]
  refine wpAny_bind ?_
  rw [arm_evalThenUse_ListComp]
  refine wpAny_bind ?_
  refine comp_core a (CompScope.of cs) hd ht _ h S (fun _ _ p => p.toX S) (fun D acc H' s' L m hi S' E' hns hL hHL hBL => ?_) hs
  show wpAny C.M A (PySem.assign (.Name x p') env (.ref D)) _ _ s'
  refine wpAny_assign_Name ?_
  obtain ⟨v, H'', fz, q⟩ := hi
  obtain ⟨S3, r3⟩ := fz.2 C s' (.ref D) S'.sim (.ref D)
  have E3 : Ext H' s'.heap H'' s'.heap := ⟨fun _ _ e _ => .of e, fun a _ _ n => fz.1 a n, fun _ o e => ⟨o, e⟩⟩
  have SL3 := S'.ext S3 E3
  refine store_local hk SL3 r3 fun s₅ S₅ E₅ hk₅ hg₅ => ?_
  have hLne : L ≠ env.locals := fun q => by
    obtain ⟨m2, cm2, F2, _⟩ := S.frm
    obtain ⟨o2, e2, _⟩ := ns_noseq F2.ns
    rw [← q, hL] at e2; cases e2
  obtain ⟨oL, es, ep, eL, dL, rL⟩ := hns
  have hns5 : s₅.heap.Ns L m := ⟨oL, es, ep, hk₅ _ _ hLne eL, dL, rL⟩
  refine ⟨m, hns5, fun h' hsb => wpAny_pure (wpAny_pure ?_)⟩
  obtain ⟨m5, cm5, F5, r5⟩ := S₅.frm
  obtain ⟨oL5, eL5, nL5⟩ := ns_noseq hns5
  have hHL' : H'' L = Option.none := fz.1 L hHL
  have hkeep : ∀ a o, a ≠ L → s₅.heap.get? a = some o → h'.get? a = some o := fun a o n e => hsb.extBut a o n e
  have S6 : Sim C H'' { s₅ with heap := h' } := S₅.sim.touch (s' := { s₅ with heap := h' }) eL5 nL5 hHL' hBL hkeep rfl rfl (.inr (.inr ⟨_, _, S.sim.frs, hL⟩))
  have hcellne : ∀ n c, env.cells.lookup n = some c → c ≠ L := fun n c e q => by
    obtain ⟨m2, cm2, F2, _⟩ := S.frm
    obtain ⟨o2, e2, _⟩ := cell_noseq (F2.cell n c e)
    rw [q, hL] at e2; cases e2
  have SL6 : SimL C env (ρ.set x v) H'' { s₅ with heap := h' } := by
    refine ⟨S6, S.kind, S.globals, S.builtins, m5, cm5, ⟨?_, fun n c e => ?_, F5.own, F5.ownc, F5.above, F5.abovec, F5.apart⟩, fun y w e => (r5 y w e).extV (ExtV.but eL5 nL5 hkeep)⟩
    · exact F5.ns.sameBut hsb (Ne.symm hLne)
    · exact (F5.cell n c e).sameBut hsb (hcellne n c e)
  have hb : ∀ a o, s.heap.get? a = some o → a ≠ L := fun a o e q => by rw [q, hL] at e; cases e
  have EF : ExtF env H s.heap H'' s₅.heap := (E'.trans E3).toF.trans E₅
  refine ⟨.next, ρ.set x v, H'', q, trivial, SL6, ⟨fun a o e n n1 n2 => (EF.keep a o e n n1 n2).trans fun o' e' => .of (hkeep a o' (hb a o e) e'), EF.grow, fun a o e => let ⟨o', e'⟩ := EF.live a o e; ⟨o', hkeep a o' (hb a o e) e'⟩⟩⟩

end Mine

set_option Elab.async false
set_option linter.unusedVariables false
namespace Mine
open PySem PyProof.Rows

variable {C : Cx} {k : Nat} {env : Env} {ρ : Rho} {H : Hp} {Q R : V → Hp → Prop} {QB : Bool → Hp → Prop}

/- ints -/
theorem BinW.add {i j : Int} (h : Q (.int (i + j)) H) : BinW C k .Add (.int i) (.int j) Q R H := fun A a s x y S r1 r2 => by
  cases r1; cases r2; exact add_int (Post.here h (S.toks _) (.int _ _) rfl)
theorem BinW.sub {i j : Int} (h : Q (.int (i - j)) H) : BinW C k .Sub (.int i) (.int j) Q R H := fun A a s x y S r1 r2 => by
  cases r1; cases r2; exact sub_int (Post.here h (S.toks _) (.int _ _) rfl)
theorem BinW.mod {i j : Int} (hb : 0 < j) (h : Q (.int (i % j)) H) : BinW C k .Mod (.int i) (.int j) Q R H := fun A a s x y S r1 r2 => by
  cases r1; cases r2
  refine mod_int' (by omega) (Post.here (v := .int (i % j)) h (S.toks _) ?_ rfl)
  rw [Int.fmod_eq_emod_of_nonneg _ (by omega)]; exact .int _ _
theorem BinW.floordiv {i j : Int} (hb : 0 < j) (hs : j < 1073741824) (h : Q (.int (i / j)) H) : BinW C k .FloorDiv (.int i) (.int j) Q R H := fun A a s x y S r1 r2 => by
  cases r1; cases r2
  refine floordiv_int (by omega) (Post.here (v := .int (i / j)) h (S.toks _) ?_ rfl) (Or.inl (PyProof.noPylong_small (by omega)))
  rw [Int.fdiv_eq_ediv_of_nonneg _ (by omega)]; exact .int _ _
theorem EvalW.neg {e p} (h : EvalW C k env e (fun v H' => ∃ i, v = .int i ∧ Q (.int (-i)) H') R ρ H) : EvalW C k env (.UnaryOp .USub e p) Q R ρ H := fun A a s S => by
  refine UnaryOp_ (wp_go (h A a s S) fun x v H₁ s₁ h₁ S₁ r₁ E₁ => ?_)
  obtain ⟨i, rfl, q⟩ := h₁
  cases r₁
  exact neg_int ⟨_, _, q, S₁.toks _, .int _ _, E₁⟩

theorem CmpW.lt {i j : Int} (h : Q (.bool (decide (i < j))) H) : CmpW C k .Lt (.int i) (.int j) Q R H := fun A a s x y S r1 r2 => by
  cases r1; cases r2; exact lt_int (Post.here h S (.bool _) rfl)
theorem CmpW.le {i j : Int} (h : Q (.bool (decide (i ≤ j))) H) : CmpW C k .LtE (.int i) (.int j) Q R H := fun A a s x y S r1 r2 => by
  cases r1; cases r2; exact le_int (Post.here h S (.bool _) rfl)
theorem CmpW.gt {i j : Int} (h : Q (.bool (decide (j < i))) H) : CmpW C k .Gt (.int i) (.int j) Q R H := fun A a s x y S r1 r2 => by
  cases r1; cases r2; exact gt_int (Post.here h S (.bool _) rfl)
theorem CmpW.ge {i j : Int} (h : Q (.bool (decide (j ≤ i))) H) : CmpW C k .GtE (.int i) (.int j) Q R H := fun A a s x y S r1 r2 => by
  cases r1; cases r2; exact ge_int (Post.here h S (.bool _) rfl)
theorem CmpW.eqI {i j : Int} (h : Q (.bool (i == j)) H) : CmpW C k .Eq (.int i) (.int j) Q R H := fun A a s x y S r1 r2 => by
  cases r1; cases r2; exact eq_int (Post.here h S (.bool _) rfl)
theorem CmpW.neI {i j : Int} (h : Q (.bool (i != j)) H) : CmpW C k .NotEq (.int i) (.int j) Q R H := fun A a s x y S r1 r2 => by
  cases r1; cases r2; exact ne_int (Post.here h S (.bool _) rfl)
theorem CmpW.eqS {i j : Str} (h : Q (.bool (i == j)) H) : CmpW C k .Eq (.str i) (.str j) Q R H := fun A a s x y S r1 r2 => by
  cases r1; cases r2; exact eq_str (Post.here h S (.bool _) rfl)
theorem CmpW.neS {i j : Str} (h : Q (.bool (i != j)) H) : CmpW C k .NotEq (.str i) (.str j) Q R H := fun A a s x y S r1 r2 => by
  cases r1; cases r2; exact ne_str (Post.here h S (.bool _) rfl)

noncomputable def V.isNone : V → Bool
  | .none => true
  | _ => false
noncomputable def V.notCon : V → Prop
  | .con _ => False
  | _ => True
theorem CmpW.isNone {v : V} (hv : v.notCon) (h : Q (.bool v.isNone) H) : CmpW C k .Is v .none Q R H := fun A a s x y S r1 r2 => by
  cases r2
  refine is_none_gen (Post.here (v := .bool v.isNone) h S ?_ rfl)
  cases r1 <;> first | exact .bool _ | exact hv.elim
theorem CmpW.isNotNone {v : V} (hv : v.notCon) (h : Q (.bool (!v.isNone)) H) : CmpW C k .IsNot v .none Q R H := fun A a s x y S r1 r2 => by
  cases r2
  refine isnot_none_gen (Post.here (v := .bool (!v.isNone)) h S ?_ rfl)
  cases r1 <;> first | exact .bool _ | exact hv.elim

theorem TruthW.bool {b : Bool} (h : QB b H) : TruthW C k (.bool b) QB R H := fun A a s x S r => by
  cases r; exact wpAny_truthy_bool (Post.here h S rfl rfl)
/- len -/
theorem CallW.len {v : V} {l : List V} (hl : lview H v = some l) (hn : l.length ≤ 100000) (h : Q (.int l.length) H) : CallW C k (.builtin "len") [v] Q R H := fun A a s xs S r => by
  cases r with
  | cons r r' =>
    cases r'
    obtain ⟨ad, ys, rfl, hL, rl⟩ := lview_list hl S r
    have hz : ys.size = l.length := by have := rl.length; simpa using this
    refine len_list hL (by omega) (Post.here h (S.toks _) ?_ rfl)
    rw [hz]; exact .int _ _
theorem CallW.lenT {l : List V} (hn : l.length ≤ 100000) (h : Q (.int l.length) H) : CallW C k (.builtin "len") [.tup l] Q R H := fun A a s xs S r => by
  cases r with
  | cons r r' =>
    cases r'
    cases r with
    | @tup ad _ ys ha ho rl =>
      have hz : ys.size = l.length := by have := rl.length; simpa using this
      refine len_tuple ha (by omega) (Post.here h (S.toks _) ?_ rfl)
      rw [hz]; exact .int _ _

/- subscripts -/
noncomputable def SubW (C : Cx) (k : Nat) (value slice : Expr) (v i : V) (Q R : V → Hp → Prop) (H : Hp) : Prop :=
  ∀ A, Lv C k A → ∀ s x y, Sim C H s → VRel s.heap H v x → VRel s.heap H i y → wpAny C.M A (subscriptTail value slice x y) (Post C H s.heap VRel Q) (Post C H s.heap VRel R) s
theorem EvalW.sub {value slice p} (h : EvalW C k env value (fun v H₁ => EvalW C k env slice (fun i H₂ => SubW C k value slice v i Q R H₂) R ρ H₁) R ρ H) : EvalW C k env (.Subscript value slice p) Q R ρ H := fun A a s S =>
  Subscript_ (wp_go (h A a s S) fun x v H₁ s₁ h₁ S₁ r₁ E₁ => wp_go (h₁ A a s₁ (S.ext S₁ E₁)) (fun y w H₂ s₂ h₂ S₂ r₂ E₂ => wp_fin (E₁.trans E₂) (h₂ A a s₂ x y S₂ (r₁.ext E₂) r₂)) fun _ _ p => p.after E₁)
theorem SubW.list {value slice} {v u : V} {l : List V} {i : Int} (hl : lview H v = some l) (h0 : 0 ≤ i) (hi : i < 2 ^ 63) (hx : l[i.toNat]? = some u) (h : Q u H)
    (hs : ∀ o i, subscripted slice false o i = operate [o, i] (getItem o i) := by intros; rfl) : SubW C k value slice v (.int i) Q R H := fun A a s x y S r1 r2 => by
  obtain ⟨ad, xs, rfl, hL, rl⟩ := lview_list hl S r1
  cases r2
  obtain ⟨z, ez, rz⟩ := rl.get hx
  exact tail_any hL.typeIs slot_list_getitem.lookup (wpAny_getItem_list hL h0 hi (by simpa using ez) (Post.here h S rz rfl)) (hs _ _)
theorem SubW.tup {value slice} {u : V} {l : List V} {i : Int} (h0 : 0 ≤ i) (hi : i < 2 ^ 63) (hx : l[i.toNat]? = some u) (h : Q u H)
    (hs : ∀ o i, subscripted slice false o i = operate [o, i] (getItem o i) := by intros; rfl) : SubW C k value slice (.tup l) (.int i) Q R H := fun A a s x y S r1 r2 => by
  cases r1 with
  | @tup ad _ xs ha ho rl =>
    cases r2
    obtain ⟨z, ez, rz⟩ := rl.get hx
    have hz : i.toNat < xs.size := by have := (List.getElem?_eq_some_iff.mp ez).1; simpa using this
    refine tail_any (T := "tuple") (Heap.IsTuple.typeIs ha) slot_tuple_getitem.lookup (getItem_tuple (j := i.toNat) ha (by omega) hi ?_ (by simpa using ez) (Post.here h S rz rfl)) (hs _ _)
    unfold seqIndex?
    have : ¬ i < 0 := by omega
    simp [this, hz]; omega

/- isinstance -/
noncomputable def tyOf (H : Hp) : V → Option String
  | .none => some "NoneType"
  | .bool _ => some "bool"
  | .int _ => some "int"
  | .str _ => some "str"
  | .tup _ => some "tuple"
  | .lst _ => some "list"
  | .ref a => match H a with
    | some (.list _) => some "list"
    | some (.dictI ..) => some "dict"
    | some (.dictS ..) => some "dict"
    | _ => Option.none
  | .con _ => Option.none
noncomputable def isSub (T U : String) : Bool := T == U || (T == "bool" && U == "int")
theorem CallW.isi_int {v : V} {T : String} (hT : tyOf H v = some T) (h : Q (.bool (isSub T "int")) H) : CallW C k (.builtin "isinstance") [v, .con (.type "int")] Q R H := fun A a s xs S r => by
  cases r with
  | cons r r1 =>
    cases r1 with
    | cons r1 r2 =>
      cases r2; cases r1
      cases r with
      | none => exact IsiPair.NoneType_int (Post.here (v := .bool false) (by cases hT; exact h) (S.toks _) (.bool _) rfl)
      | bool b => exact IsiPair.bool_int (Post.here (v := .bool true) (by cases hT; exact h) S (.bool _) rfl)
      | int i t => exact IsiPair.int_int (Post.here (v := .bool true) (by cases hT; exact h) S (.bool _) rfl)
      | str x t => exact IsiPair.str_int (Post.here (v := .bool false) (by cases hT; exact h) (S.toks _) (.bool _) rfl)
      | tup ha ho hl => obtain ⟨o, e, c, _⟩ := ha; exact IsiPair.tuple_int e c (Post.here (v := .bool false) (by cases hT; exact h) (S.toks _) (.bool _) rfl)
      | lst ha ho hl => obtain ⟨o, e, c, _⟩ := ha; exact IsiPair.list_int e c (Post.here (v := .bool false) (by cases hT; exact h) (S.toks _) (.bool _) rfl)
      | ref ad =>
        simp only [tyOf] at hT
        split at hT
        · rename_i l e
          obtain ⟨ys, hpl, _⟩ := S.objs _ _ e
          obtain ⟨o, e', c, _⟩ := hpl.isList
          exact IsiPair.list_int e' c (Post.here (v := .bool false) (by cases hT; exact h) (S.toks _) (.bool _) rfl)
        · rename_i m n e
          obtain ⟨f, ⟨o, es, ep, e', hx, _⟩, _⟩ := S.objs _ _ e
          exact IsiPair.dict_int e' hx.1 (Post.here (v := .bool false) (by cases hT; exact h) (S.toks _) (.bool _) rfl)
        · rename_i m n e
          obtain ⟨f, ⟨o, es, ep, e', hx, _⟩, _⟩ := S.objs _ _ e
          exact IsiPair.dict_int e' hx.1 (Post.here (v := .bool false) (by cases hT; exact h) (S.toks _) (.bool _) rfl)
        · cases hT
      | con v => cases hT
theorem CallW.isi_bool {v : V} {T : String} (hT : tyOf H v = some T) (h : Q (.bool (isSub T "bool")) H) : CallW C k (.builtin "isinstance") [v, .con (.type "bool")] Q R H := fun A a s xs S r => by
  cases r with
  | cons r r1 =>
    cases r1 with
    | cons r1 r2 =>
      cases r2; cases r1
      cases r with
      | none => exact IsiPair.NoneType_bool (Post.here (v := .bool false) (by cases hT; exact h) (S.toks _) (.bool _) rfl)
      | bool b => exact IsiPair.bool_bool (Post.here (v := .bool true) (by cases hT; exact h) S (.bool _) rfl)
      | int i t => exact IsiPair.int_bool (Post.here (v := .bool false) (by cases hT; exact h) (S.toks _) (.bool _) rfl)
      | str x t => exact IsiPair.str_bool (Post.here (v := .bool false) (by cases hT; exact h) (S.toks _) (.bool _) rfl)
      | tup ha ho hl => obtain ⟨o, e, c, _⟩ := ha; exact IsiPair.tuple_bool e c (Post.here (v := .bool false) (by cases hT; exact h) (S.toks _) (.bool _) rfl)
      | lst ha ho hl => obtain ⟨o, e, c, _⟩ := ha; exact IsiPair.list_bool e c (Post.here (v := .bool false) (by cases hT; exact h) (S.toks _) (.bool _) rfl)
      | ref ad =>
        simp only [tyOf] at hT
        split at hT
        · rename_i l e
          obtain ⟨ys, hpl, _⟩ := S.objs _ _ e
          obtain ⟨o, e', c, _⟩ := hpl.isList
          exact IsiPair.list_bool e' c (Post.here (v := .bool false) (by cases hT; exact h) (S.toks _) (.bool _) rfl)
        · rename_i m n e
          obtain ⟨f, ⟨o, es, ep, e', hx, _⟩, _⟩ := S.objs _ _ e
          exact IsiPair.dict_bool e' hx.1 (Post.here (v := .bool false) (by cases hT; exact h) (S.toks _) (.bool _) rfl)
        · rename_i m n e
          obtain ⟨f, ⟨o, es, ep, e', hx, _⟩, _⟩ := S.objs _ _ e
          exact IsiPair.dict_bool e' hx.1 (Post.here (v := .bool false) (by cases hT; exact h) (S.toks _) (.bool _) rfl)
        · cases hT
      | con v => cases hT
theorem CallW.isi_str {v : V} {T : String} (hT : tyOf H v = some T) (h : Q (.bool (isSub T "str")) H) : CallW C k (.builtin "isinstance") [v, .con (.type "str")] Q R H := fun A a s xs S r => by
  cases r with
  | cons r r1 =>
    cases r1 with
    | cons r1 r2 =>
      cases r2; cases r1
      cases r with
      | none => exact IsiPair.NoneType_str (Post.here (v := .bool false) (by cases hT; exact h) (S.toks _) (.bool _) rfl)
      | bool b => exact IsiPair.bool_str (Post.here (v := .bool false) (by cases hT; exact h) (S.toks _) (.bool _) rfl)
      | int i t => exact IsiPair.int_str (Post.here (v := .bool false) (by cases hT; exact h) (S.toks _) (.bool _) rfl)
      | str x t => exact IsiPair.str_str (Post.here (v := .bool true) (by cases hT; exact h) S (.bool _) rfl)
      | tup ha ho hl => obtain ⟨o, e, c, _⟩ := ha; exact IsiPair.tuple_str e c (Post.here (v := .bool false) (by cases hT; exact h) (S.toks _) (.bool _) rfl)
      | lst ha ho hl => obtain ⟨o, e, c, _⟩ := ha; exact IsiPair.list_str e c (Post.here (v := .bool false) (by cases hT; exact h) (S.toks _) (.bool _) rfl)
      | ref ad =>
        simp only [tyOf] at hT
        split at hT
        · rename_i l e
          obtain ⟨ys, hpl, _⟩ := S.objs _ _ e
          obtain ⟨o, e', c, _⟩ := hpl.isList
          exact IsiPair.list_str e' c (Post.here (v := .bool false) (by cases hT; exact h) (S.toks _) (.bool _) rfl)
        · rename_i m n e
          obtain ⟨f, ⟨o, es, ep, e', hx, _⟩, _⟩ := S.objs _ _ e
          exact IsiPair.dict_str e' hx.1 (Post.here (v := .bool false) (by cases hT; exact h) (S.toks _) (.bool _) rfl)
        · rename_i m n e
          obtain ⟨f, ⟨o, es, ep, e', hx, _⟩, _⟩ := S.objs _ _ e
          exact IsiPair.dict_str e' hx.1 (Post.here (v := .bool false) (by cases hT; exact h) (S.toks _) (.bool _) rfl)
        · cases hT
      | con v => cases hT
theorem CallW.isi_list {v : V} {T : String} (hT : tyOf H v = some T) (h : Q (.bool (isSub T "list")) H) : CallW C k (.builtin "isinstance") [v, .con (.type "list")] Q R H := fun A a s xs S r => by
  cases r with
  | cons r r1 =>
    cases r1 with
    | cons r1 r2 =>
      cases r2; cases r1
      cases r with
      | none => exact IsiPair.NoneType_list (Post.here (v := .bool false) (by cases hT; exact h) (S.toks _) (.bool _) rfl)
      | bool b => exact IsiPair.bool_list (Post.here (v := .bool false) (by cases hT; exact h) (S.toks _) (.bool _) rfl)
      | int i t => exact IsiPair.int_list (Post.here (v := .bool false) (by cases hT; exact h) (S.toks _) (.bool _) rfl)
      | str x t => exact IsiPair.str_list (Post.here (v := .bool false) (by cases hT; exact h) (S.toks _) (.bool _) rfl)
      | tup ha ho hl => obtain ⟨o, e, c, _⟩ := ha; exact IsiPair.tuple_list e c (Post.here (v := .bool false) (by cases hT; exact h) (S.toks _) (.bool _) rfl)
      | lst ha ho hl => obtain ⟨o, e, c, _⟩ := ha; exact IsiPair.list_list e c (Post.here (v := .bool true) (by cases hT; exact h) S (.bool _) rfl)
      | ref ad =>
        simp only [tyOf] at hT
        split at hT
        · rename_i l e
          obtain ⟨ys, hpl, _⟩ := S.objs _ _ e
          obtain ⟨o, e', c, _⟩ := hpl.isList
          exact IsiPair.list_list e' c (Post.here (v := .bool true) (by cases hT; exact h) S (.bool _) rfl)
        · rename_i m n e
          obtain ⟨f, ⟨o, es, ep, e', hx, _⟩, _⟩ := S.objs _ _ e
          exact IsiPair.dict_list e' hx.1 (Post.here (v := .bool false) (by cases hT; exact h) (S.toks _) (.bool _) rfl)
        · rename_i m n e
          obtain ⟨f, ⟨o, es, ep, e', hx, _⟩, _⟩ := S.objs _ _ e
          exact IsiPair.dict_list e' hx.1 (Post.here (v := .bool false) (by cases hT; exact h) (S.toks _) (.bool _) rfl)
        · cases hT
      | con v => cases hT
theorem CallW.isi_tuple {v : V} {T : String} (hT : tyOf H v = some T) (h : Q (.bool (isSub T "tuple")) H) : CallW C k (.builtin "isinstance") [v, .con (.type "tuple")] Q R H := fun A a s xs S r => by
  cases r with
  | cons r r1 =>
    cases r1 with
    | cons r1 r2 =>
      cases r2; cases r1
      cases r with
      | none => exact IsiPair.NoneType_tuple (Post.here (v := .bool false) (by cases hT; exact h) (S.toks _) (.bool _) rfl)
      | bool b => exact IsiPair.bool_tuple (Post.here (v := .bool false) (by cases hT; exact h) (S.toks _) (.bool _) rfl)
      | int i t => exact IsiPair.int_tuple (Post.here (v := .bool false) (by cases hT; exact h) (S.toks _) (.bool _) rfl)
      | str x t => exact IsiPair.str_tuple (Post.here (v := .bool false) (by cases hT; exact h) (S.toks _) (.bool _) rfl)
      | tup ha ho hl => obtain ⟨o, e, c, _⟩ := ha; exact IsiPair.tuple_tuple e c (Post.here (v := .bool true) (by cases hT; exact h) S (.bool _) rfl)
      | lst ha ho hl => obtain ⟨o, e, c, _⟩ := ha; exact IsiPair.list_tuple e c (Post.here (v := .bool false) (by cases hT; exact h) (S.toks _) (.bool _) rfl)
      | ref ad =>
        simp only [tyOf] at hT
        split at hT
        · rename_i l e
          obtain ⟨ys, hpl, _⟩ := S.objs _ _ e
          obtain ⟨o, e', c, _⟩ := hpl.isList
          exact IsiPair.list_tuple e' c (Post.here (v := .bool false) (by cases hT; exact h) (S.toks _) (.bool _) rfl)
        · rename_i m n e
          obtain ⟨f, ⟨o, es, ep, e', hx, _⟩, _⟩ := S.objs _ _ e
          exact IsiPair.dict_tuple e' hx.1 (Post.here (v := .bool false) (by cases hT; exact h) (S.toks _) (.bool _) rfl)
        · rename_i m n e
          obtain ⟨f, ⟨o, es, ep, e', hx, _⟩, _⟩ := S.objs _ _ e
          exact IsiPair.dict_tuple e' hx.1 (Post.here (v := .bool false) (by cases hT; exact h) (S.toks _) (.bool _) rfl)
        · cases hT
      | con v => cases hT

end Mine

set_option Elab.async false
set_option linter.unusedVariables false
namespace Mine
open PySem PyProof.Rows

variable {C : Cx} {k : Nat} {env : Env} {ρ : Rho} {H : Hp} {Q R : V → Hp → Prop} {QB : Bool → Hp → Prop}

mutual
noncomputable def V.dat : V → PyData
  | .none => .none
  | .bool b => .bool b
  | .int i => .int i
  | .str s => .str s
  | .tup l => .tuple (datL l)
  | .lst l => .list (datL l)
  | .ref _ => .none
  | .con _ => .none
noncomputable def datL : List V → List PyData
  | [] => []
  | v :: r => v.dat :: datL r
end
mutual
noncomputable def V.pure : V → Bool
  | .none => true
  | .bool _ => true
  | .int _ => true
  | .str _ => true
  | .tup l => pureL l
  | .lst l => pureL l
  | .ref _ => false
  | .con _ => false
noncomputable def pureL : List V → Bool
  | [] => true
  | v :: r => v.pure && pureL r
end
mutual
theorem VRel.reads {h : Heap} {H : Hp} : ∀ {v : V} {x : Value}, VRel h H v x → v.pure = true → ∃ as, Reads h x v.dat as
  | _, _, .none, _ => ⟨_, .none⟩
  | _, _, .bool b, _ => ⟨_, .bool b⟩
  | _, _, .int i t, _ => ⟨_, .int i t⟩
  | _, _, .str s t, _ => ⟨_, .str s t⟩
  | _, _, .tup ha ho hl, hp => by
    obtain ⟨o, e, c, n, d⟩ := ha
    obtain ⟨as, r⟩ := VRelL.reads hl (by simpa only [V.pure] using hp)
    exact ⟨as, by simpa only [V.dat] using .tuple e c d r⟩
  | _, _, .lst ha ho hl, hp => by
    obtain ⟨o, e, c, n, d⟩ := ha
    obtain ⟨as, r⟩ := VRelL.reads hl (by simpa only [V.pure] using hp)
    exact ⟨_, by simpa only [V.dat] using .list e c d r⟩
  | _, _, .ref _, hp => by simp [V.pure] at hp
  | _, _, .con _, hp => by simp [V.pure] at hp
theorem VRelL.reads {h : Heap} {H : Hp} : ∀ {v : List V} {x : List Value}, VRelL h H v x → pureL v = true → ∃ as, ReadsAll h x (datL v) as
  | _, _, .nil, _ => ⟨_, by simpa only [datL] using .nil⟩
  | _, _, .cons hv hl, hp => by
    simp only [pureL, Bool.and_eq_true] at hp
    obtain ⟨as, r⟩ := VRel.reads hv hp.1
    obtain ⟨bs, r'⟩ := VRelL.reads hl hp.2
    exact ⟨_, by simpa only [datL] using .cons r r'⟩
end
noncomputable def see (H : Hp) : V → V
  | .ref a => match H a with
    | some (.list l) => .lst l
    | _ => .ref a
  | v => v
theorem see_reads {s : Shared} {v : V} {x : Value} (S : Sim C H s) (r : VRel s.heap H v x) (hp : (see H v).pure = true) : ∃ as, Reads s.heap x (see H v).dat as := by
  cases r with
  | ref a =>
    simp only [see] at hp ⊢
    split at hp
    · rename_i l e
      obtain ⟨xs, hpl, rl⟩ := S.objs _ _ e
      obtain ⟨o, e', c, n, d⟩ := hpl.isList
      obtain ⟨as, r⟩ := VRelL.reads rl (by simpa only [V.pure] using hp)
      exact ⟨_, by simpa only [V.dat] using .list e' c d r⟩
    · simp [V.pure] at hp
  | none => exact VRel.reads (H := H) .none hp
  | bool b => exact VRel.reads (H := H) (.bool b) hp
  | int i t => exact VRel.reads (H := H) (.int i t) hp
  | str i t => exact VRel.reads (H := H) (.str i t) hp
  | tup ha ho hl => exact VRel.reads (.tup ha ho hl) hp
  | lst ha ho hl => exact VRel.reads (.lst ha ho hl) hp
  | con v => simp [see, V.pure] at hp

noncomputable def okD (d : PyData) : Bool := SeqAt.shaped d
theorem CmpW.eq {v w : V} (hv : (see H v).pure = true) (hw : (see H w).pure = true) (sv : okD (see H v).dat = true) (sw : okD (see H w).dat = true) (h : Q (.bool (PyData.eqv (see H v).dat (see H w).dat)) H) : CmpW C k .Eq v w Q R H := fun A a s x y S r1 r2 => by
  obtain ⟨as, ra⟩ := see_reads S r1 hv
  obtain ⟨bs, rb⟩ := see_reads S r2 hw
  exact eq_dataH ra rb sv sw (by have := a.units; omega) (Post.here h S (.bool _) rfl)
theorem CmpW.ne {v w : V} (hv : (see H v).pure = true) (hw : (see H w).pure = true) (sv : okD (see H v).dat = true) (sw : okD (see H w).dat = true) (h : Q (.bool (!PyData.eqv (see H v).dat (see H w).dat)) H) : CmpW C k .NotEq v w Q R H := fun A a s x y S r1 r2 => by
  obtain ⟨as, ra⟩ := see_reads S r1 hv
  obtain ⟨bs, rb⟩ := see_reads S r2 hw
  exact ne_dataH ra rb sv sw (by have := a.units; omega) (Post.here h S (.bool _) rfl)

/- in: a list or tuple -/
/- dicts with int keys -/
theorem Sim.noSys {s : Shared} (S : Sim C H s) {a : Addr} {o : O} (ha : H a = some o) : (a == sysModules) = false := by
  have := (S.new a (by rw [ha]; simp)).2
  simpa using this
theorem CmpW.inI {a : Addr} {m : Int → Option V} {n : Nat} {i : Int} (ha : H a = some (.dictI m n)) (h : Q (.bool (m i).isSome) H) : CmpW C k .In (.int i) (.ref a) Q R H := fun A lv s x y S r1 r2 => by
  cases r1; cases r2
  obtain ⟨f, hm, hle, hr⟩ := S.objs _ _ ha
  refine wpAny_in_of (intKind_is _ _ _ _) (S.noSys ha) hm.mapOf (Post.here (v := .bool (m i).isSome) h (S.toks _) ?_ rfl)
  have := hr i
  cases e1 : m i <;> cases e2 : valueAt f i <;> rw [e1, e2] at this <;> first | exact this.elim | exact .bool _

end Mine

set_option Elab.async false
set_option linter.unusedVariables false
namespace Mine
open PySem PySem.W PyProof.Rows

variable {C : Cx} {k : Nat} {K : Frag}

theorem FnOK.ofK {a : Addr} {name qual : Str} {params : Arguments} {body : List Stmt} {scope : Scope} {dV kV doc pm cdv ct oc : Value} {an od : Option Addr} {osl : Array (Option Value)} {S : SpecT} (names : List Str)
    (X : K.In C.base) (lim : C.base.NoLimit) (ho : K.lookup a = some ⟨oc, od, .func (fnOf name qual params body scope dV kV doc pm an cdv ct), osl⟩) (hcd : codeIn K cdv qual = true)
    (hbind : ∀ vals : List Value, vals.length = names.length → bindArgs (fnOf name qual params body scope dV kV doc pm an cdv ct) ⟨vals, []⟩ = pure (names.zip vals))
    (hk : (names.all fun n => scope.names.lookup n == some .local || scope.names.lookup n == some .cell) = true) (hfl : (!scope.isCoroutine && !scope.isGenerator && scope.kind == .function) = true)
    (h : ∀ args Q R H, S args Q R H → args.length = names.length ∧ ∀ L, ExecsW (C.push (envOfC qual scope L a cdv)) k (envOfC qual scope L a cdv) body (RetQ Q) (fun _ _ _ => False) (bindRho (fun _ => none) names args) H) :
    FnOK C (k + 1) (.ref a) S := by
  simp only [Bool.and_eq_true, Bool.not_eq_true', beq_iff_eq] at hfl
  have D : FnDef C a (fnOf name qual params body scope dV kV doc pm an cdv ct) names body :=
    ⟨⟨_, X _ _ ho, rfl⟩, lim, codeRec_of X hcd, rfl, rfl, rfl, rfl, hfl.1.1, hfl.1.2, hfl.2, hbind, fun n hn => by
      have := List.all_eq_true.mp hk n hn
      simpa using this⟩
  exact FnOK.of_def D h
end Mine

set_option Elab.async false
set_option linter.unusedVariables false
namespace Mine
open PySem PySem.W PyProof.Rows

structure PCx (C : Cx) (K : Frag) : Prop where
  X : K.In C.base
  lim : C.base.NoLimit
  ns : ∃ mg mb, C.base.Ns mainGlobals mg ∧ C.base.Ns builtinsNs mb ∧ ∀ x : Str, x ≠ "__name__" → mb x = bootBuiltins x
  hd : C.hd = true
  mods : ∃ o, C.base.get? sysModules = some o
variable {C : Cx} {K : Frag}
theorem PCx.push (P : PCx C K) (env : Env) : PCx (C.push env) K := ⟨P.X, P.lim, P.ns, P.hd, P.mods⟩
theorem PCx.glob (P : PCx C K) {x : Str} {v : Value} (e : nsIn K mainGlobals x = some (some v)) : GlobalV C x (.con v) :=
  let ⟨mg, mb, g, b, h⟩ := P.ns; ⟨v, .inl ⟨mg, g, mg_of P.X g e⟩, fun _ _ => .con v⟩
theorem PCx.globInt (P : PCx C K) {x : Str} {i : Int} {t : Tok} (e : nsIn K mainGlobals x = some (some (.int i t))) : GlobalV C x (.int i) :=
  let ⟨mg, mb, g, b, h⟩ := P.ns; ⟨_, .inl ⟨mg, g, mg_of P.X g e⟩, fun _ _ => .int i t⟩
theorem PCx.blt (P : PCx C K) {x : Str} {v : Value} (e : nsIn K mainGlobals x = some none) (hv : bootBuiltins x = some v) (hn : x ≠ "__name__" := by decide) : GlobalV C x (.con v) :=
  let ⟨mg, mb, g, b, h⟩ := P.ns; ⟨v, .inr ⟨mg, mb, g, mg_none_of P.X g e, b, (h x hn).trans hv⟩, fun _ _ => .con v⟩
end Mine

set_option Elab.async false
set_option linter.unusedVariables false
namespace Mine
open PySem PySem.W PyProof.Rows
noncomputable def stAt (p : Program) (i : Nat) : Option Stmt := p.main.body[i]?
noncomputable def stIn (p : Program) (i j : Nat) : Option Stmt := match p.main.body[i]? with
  | some (.ClassDef _ _ _ b ..) => b[j]?
  | _ => none
noncomputable def fnTri : Option Stmt → Arguments × List Stmt × Scope
  | some (.FunctionDef _ a b _ _ _ sc ..) => (a, b, sc)
  | _ => (default, [], default)
noncomputable def fobj (s : Option Stmt) (name qual : Str) (dV kV doc pm : Value) (an : Option Addr) (cdv ct : Value) : Obj :=
  ⟨.type "function", none, .func (fnOf name qual (fnTri s).1 (fnTri s).2.1 (fnTri s).2.2 dV kV doc pm an cdv ct), #[]⟩
variable {C : Cx} {K : Frag}
theorem FnOK.ofS {k : Nat} {a : Addr} {s : Option Stmt} {name qual : Str} {params : Arguments} {body : List Stmt} {scope : Scope} {dV kV doc pm cdv ct : Value} {an : Option Addr} {S : SpecT} (names : List Str)
    (P : PCx C K) (ho : K.lookup a = some (fobj s name qual dV kV doc pm an cdv ct)) (hs : fnTri s = (params, body, scope)) (hcd : codeIn K cdv qual = true)
    (hbind : ∀ vals : List Value, vals.length = names.length → bindArgs (fnOf name qual params body scope dV kV doc pm an cdv ct) ⟨vals, []⟩ = pure (names.zip vals))
    (hk : (names.all fun n => scope.names.lookup n == some .local || scope.names.lookup n == some .cell) = true) (hfl : (!scope.isCoroutine && !scope.isGenerator && scope.kind == .function) = true)
    (h : ∀ args Q R H, S args Q R H → args.length = names.length ∧ ∀ L, PCx (C.push (envOfC qual scope L a cdv)) K → ExecsW (C.push (envOfC qual scope L a cdv)) k (envOfC qual scope L a cdv) body (RetQ Q) (fun _ _ _ => False) (bindRho (fun _ => none) names args) H) :
    FnOK C (k + 1) (.ref a) S := by
  unfold fobj at ho
  rw [hs] at ho
  exact FnOK.ofK names P.X P.lim ho hcd hbind hk hfl fun args Q R H hs => ⟨(h args Q R H hs).1, fun L => (h args Q R H hs).2 L (P.push _)⟩
theorem Plainly.ofS {a : Addr} {s : Option Stmt} {name qual : Str} {dV kV doc pm cdv ct : Value} {an : Option Addr}
    (X : K.In C.base) (ho : K.lookup a = some (fobj s name qual dV kV doc pm an cdv ct)) : Plainly C (.ref a) := Plainly.fn (X _ _ ho) rfl
end Mine

set_option Elab.async false
set_option maxRecDepth 100000
set_option maxHeartbeats 8000000
namespace Mine
open PySem PySem.W PyProof.Rows
noncomputable def K11 (P : Params) : Frag := [
  (2, (Obj.mk Value.none Option.none (Data.dict (List.toArray []) 0) (List.toArray []))),
  (3, (Obj.mk (Value.type "dict") Option.none (Data.dict (List.toArray [(DictEntry.mk (PyData.keyHash P (Str.ofString "__name__")) (Value.str (Str.ofString "__name__") 165) (Value.str (Str.ofString "law_uf060008_11") 516)), (DictEntry.mk (PyData.keyHash P (Str.ofString "__doc__")) (Value.str (Str.ofString "__doc__") 166) Value.none), (DictEntry.mk (PyData.keyHash P (Str.ofString "__package__")) (Value.str (Str.ofString "__package__") 167) Value.none), (DictEntry.mk (PyData.keyHash P (Str.ofString "__loader__")) (Value.str (Str.ofString "__loader__") 168) (Value.builtin "__main__.__loader__#opaque")), (DictEntry.mk (PyData.keyHash P (Str.ofString "__spec__")) (Value.str (Str.ofString "__spec__") 169) Value.none), (DictEntry.mk (PyData.keyHash P (Str.ofString "__annotations__")) (Value.str (Str.ofString "__annotations__") 170) (Value.ref 6)), (DictEntry.mk (PyData.keyHash P (Str.ofString "__builtins__")) (Value.str (Str.ofString "__builtins__") 171) (Value.ref 4)), (DictEntry.mk (PyData.keyHash P (Str.ofString "__file__")) (Value.str (Str.ofString "__file__") 173) (Value.str (Str.ofString "/claim/cut.py") 172)), (DictEntry.mk (PyData.keyHash P (Str.ofString "__cached__")) (Value.str (Str.ofString "__cached__") 174) Value.none), (DictEntry.mk (PyData.keyHash P (Str.ofString "BellError")) (Value.str (Str.ofString "BellError") 206) (Value.ref 24)), (DictEntry.mk (PyData.keyHash P (Str.ofString "BadWaits")) (Value.str (Str.ofString "BadWaits") 231) (Value.ref 44)), (DictEntry.mk (PyData.keyHash P (Str.ofString "NoHand")) (Value.str (Str.ofString "NoHand") 247) (Value.ref 56)), (DictEntry.mk (PyData.keyHash P (Str.ofString "NoLetter")) (Value.str (Str.ofString "NoLetter") 263) (Value.ref 68)), (DictEntry.mk (PyData.keyHash P (Str.ofString "Hand")) (Value.str (Str.ofString "Hand") 344) (Value.ref 118)), (DictEntry.mk (PyData.keyHash P (Str.ofString "MOST_HANDS")) (Value.str (Str.ofString "MOST_HANDS") 348) (Value.int 40 347)), (DictEntry.mk (PyData.keyHash P (Str.ofString "is_place")) (Value.str (Str.ofString "is_place") 356) (Value.ref 129)), (DictEntry.mk (PyData.keyHash P (Str.ofString "is_wait")) (Value.str (Str.ofString "is_wait") 366) (Value.ref 136)), (DictEntry.mk (PyData.keyHash P (Str.ofString "need")) (Value.str (Str.ofString "need") 375) (Value.ref 143)), (DictEntry.mk (PyData.keyHash P (Str.ofString "goes")) (Value.str (Str.ofString "goes") 381) (Value.ref 148)), (DictEntry.mk (PyData.keyHash P (Str.ofString "freed")) (Value.str (Str.ofString "freed") 393) (Value.ref 155)), (DictEntry.mk (PyData.keyHash P (Str.ofString "stuck")) (Value.str (Str.ofString "stuck") 399) (Value.ref 160)), (DictEntry.mk (PyData.keyHash P (Str.ofString "shows")) (Value.str (Str.ofString "shows") 405) (Value.ref 165)), (DictEntry.mk (PyData.keyHash P (Str.ofString "Net")) (Value.str (Str.ofString "Net") 515) (Value.ref 248)), (DictEntry.mk (PyData.keyHash P (Str.ofString "_law_cell_at")) (Value.str (Str.ofString "_law_cell_at") 525) (Value.ref 259)), (DictEntry.mk (PyData.keyHash P (Str.ofString "_law_deed")) (Value.str (Str.ofString "_law_deed") 536) (Value.ref 266)), (DictEntry.mk (PyData.keyHash P (Str.ofString "_law_by_name")) (Value.str (Str.ofString "_law_by_name") 548) (Value.ref 273)), (DictEntry.mk (PyData.keyHash P (Str.ofString "_law_by_base")) (Value.str (Str.ofString "_law_by_base") 561) (Value.ref 280)), (DictEntry.mk (PyData.keyHash P (Str.ofString "_law_said")) (Value.str (Str.ofString "_law_said") 573) (Value.ref 287)), (DictEntry.mk (PyData.keyHash P (Str.ofString "_law_seen")) (Value.str (Str.ofString "_law_seen") 579) (Value.ref 292)), (DictEntry.mk (PyData.keyHash P (Str.ofString "_law_wrong")) (Value.str (Str.ofString "_law_wrong") 588) (Value.ref 299)), (DictEntry.mk (PyData.keyHash P (Str.ofString "law")) (Value.str (Str.ofString "law") 594) (Value.ref 304))]) 31) (List.toArray []))),
  (23, (Obj.mk (Value.type "dict") Option.none (Data.dict (List.toArray [(DictEntry.mk (PyData.keyHash P (Str.ofString "__module__")) (Value.str (Str.ofString "__module__") 196) (Value.str (Str.ofString "stuckbell.errors") 187)), (DictEntry.mk (PyData.keyHash P (Str.ofString "__firstlineno__")) (Value.str (Str.ofString "__firstlineno__") 200) (Value.int 2 199)), (DictEntry.mk (PyData.keyHash P (Str.ofString "__static_attributes__")) (Value.str (Str.ofString "__static_attributes__") 201) (Value.ref 22)), (DictEntry.mk (PyData.keyHash P (Str.ofString "__weakref__")) (Value.str (Str.ofString "__weakref__") 203) (Value.ref 25)), (DictEntry.mk (PyData.keyHash P (Str.ofString "__doc__")) (Value.str (Str.ofString "__doc__") 204) Value.none)]) 3) (List.toArray []))),
  (24, (Obj.mk (Value.type "type") Option.none (Data.cls (ClassData.mk (Str.ofString "BellError") [(Value.type "ValueError")] [(Value.ref 24), (Value.type "ValueError"), (Value.type "Exception"), (Value.type "BaseException"), (Value.type "object")] 23 (Str.ofString "BellError") Bool.true [] [(Value.ref 44), (Value.ref 56), (Value.ref 68)] Bool.false Option.none Bool.false)) (List.toArray [(Option.some (Value.ref 15)), Option.none, (Option.some (Value.str (Str.ofString "BellError") 189)), (Option.some (Value.str (Str.ofString "BellError") 197)), (Option.some (Value.builtin "ValueError.__new__")), (Option.some (Value.bool Bool.true))]))),
  (25, (Obj.mk (Value.type "getset_descriptor") Option.none (Data.fields (List.toArray [(Value.str (Str.ofString "__weakref__") 202), (Value.ref 24), (Value.builtin "ExceptionGroup.__weakref__"), Value.none])) (List.toArray []))),
  (40, (Obj.mk (Value.type "code") Option.none (Data.fields (List.toArray [(Value.str (Str.ofString "__init__") 219), (Value.str (Str.ofString "BadWaits.__init__") 220), (Value.str (Str.ofString "/claim/cut.py") 221), (Value.int 6 0), (Value.int 2 0), (Value.int 0 0), (Value.int 0 0), (Value.int 3 0), (Value.ref 35), (Value.bool Bool.true), (Value.int 181 0), (Value.ref 36), Value.none, (Value.ref 37), (Value.ref 38), (Value.ref 39), (Value.int 224 0), (Value.int 6 0), (Value.str (Str.ofString "/claim/cut.py") 225)])) (List.toArray []))),
  (41, fobj (stIn PySem.Challenge.rw_uf060008_11.prog 2 0) (Str.ofString "__init__") (Str.ofString "BadWaits.__init__") Value.none Value.none Value.none (Value.str (Str.ofString "stuckbell.errors") 187) Option.none (Value.ref 40) Value.none),
  (43, (Obj.mk (Value.type "dict") Option.none (Data.dict (List.toArray [(DictEntry.mk (PyData.keyHash P (Str.ofString "__module__")) (Value.str (Str.ofString "__module__") 214) (Value.str (Str.ofString "stuckbell.errors") 187)), (DictEntry.mk (PyData.keyHash P (Str.ofString "__firstlineno__")) (Value.str (Str.ofString "__firstlineno__") 218) (Value.int 4 217)), (DictEntry.mk (PyData.keyHash P (Str.ofString "__init__")) (Value.str (Str.ofString "__init__") 226) (Value.ref 41)), (DictEntry.mk (PyData.keyHash P (Str.ofString "__static_attributes__")) (Value.str (Str.ofString "__static_attributes__") 228) (Value.ref 42)), (DictEntry.mk (PyData.keyHash P (Str.ofString "__doc__")) (Value.str (Str.ofString "__doc__") 229) Value.none)]) 2) (List.toArray []))),
  (44, (Obj.mk (Value.type "type") Option.none (Data.cls (ClassData.mk (Str.ofString "BadWaits") [(Value.ref 24)] [(Value.ref 44), (Value.ref 24), (Value.type "ValueError"), (Value.type "Exception"), (Value.type "BaseException"), (Value.type "object")] 43 (Str.ofString "BadWaits") Bool.true [] [] Bool.false Option.none Bool.false)) (List.toArray [(Option.some (Value.ref 28)), Option.none, (Option.some (Value.str (Str.ofString "BadWaits") 207)), (Option.some (Value.str (Str.ofString "BadWaits") 215)), (Option.some (Value.builtin "ValueError.__new__")), (Option.some (Value.bool Bool.true))]))),
  (55, (Obj.mk (Value.type "dict") Option.none (Data.dict (List.toArray [(DictEntry.mk (PyData.keyHash P (Str.ofString "__module__")) (Value.str (Str.ofString "__module__") 239) (Value.str (Str.ofString "stuckbell.errors") 187)), (DictEntry.mk (PyData.keyHash P (Str.ofString "__firstlineno__")) (Value.str (Str.ofString "__firstlineno__") 243) (Value.int 9 242)), (DictEntry.mk (PyData.keyHash P (Str.ofString "__static_attributes__")) (Value.str (Str.ofString "__static_attributes__") 244) (Value.ref 54)), (DictEntry.mk (PyData.keyHash P (Str.ofString "__doc__")) (Value.str (Str.ofString "__doc__") 245) Value.none)]) 2) (List.toArray []))),
  (56, (Obj.mk (Value.type "type") Option.none (Data.cls (ClassData.mk (Str.ofString "NoHand") [(Value.ref 24)] [(Value.ref 56), (Value.ref 24), (Value.type "ValueError"), (Value.type "Exception"), (Value.type "BaseException"), (Value.type "object")] 55 (Str.ofString "NoHand") Bool.true [] [] Bool.false Option.none Bool.false)) (List.toArray [(Option.some (Value.ref 47)), Option.none, (Option.some (Value.str (Str.ofString "NoHand") 232)), (Option.some (Value.str (Str.ofString "NoHand") 240)), (Option.some (Value.builtin "ValueError.__new__")), (Option.some (Value.bool Bool.true))]))),
  (67, (Obj.mk (Value.type "dict") Option.none (Data.dict (List.toArray [(DictEntry.mk (PyData.keyHash P (Str.ofString "__module__")) (Value.str (Str.ofString "__module__") 255) (Value.str (Str.ofString "stuckbell.errors") 187)), (DictEntry.mk (PyData.keyHash P (Str.ofString "__firstlineno__")) (Value.str (Str.ofString "__firstlineno__") 259) (Value.int 11 258)), (DictEntry.mk (PyData.keyHash P (Str.ofString "__static_attributes__")) (Value.str (Str.ofString "__static_attributes__") 260) (Value.ref 66)), (DictEntry.mk (PyData.keyHash P (Str.ofString "__doc__")) (Value.str (Str.ofString "__doc__") 261) Value.none)]) 2) (List.toArray []))),
  (68, (Obj.mk (Value.type "type") Option.none (Data.cls (ClassData.mk (Str.ofString "NoLetter") [(Value.ref 24)] [(Value.ref 68), (Value.ref 24), (Value.type "ValueError"), (Value.type "Exception"), (Value.type "BaseException"), (Value.type "object")] 67 (Str.ofString "NoLetter") Bool.true [] [] Bool.false Option.none Bool.false)) (List.toArray [(Option.some (Value.ref 59)), Option.none, (Option.some (Value.str (Str.ofString "NoLetter") 248)), (Option.some (Value.str (Str.ofString "NoLetter") 256)), (Option.some (Value.builtin "ValueError.__new__")), (Option.some (Value.bool Bool.true))]))),
  (83, (Obj.mk (Value.type "code") Option.none (Data.fields (List.toArray [(Value.str (Str.ofString "__init__") 278), (Value.str (Str.ofString "Hand.__init__") 279), (Value.str (Str.ofString "/claim/cut.py") 280), (Value.int 16 0), (Value.int 4 0), (Value.int 0 0), (Value.int 0 0), (Value.int 3 0), (Value.ref 78), (Value.bool Bool.true), (Value.int 181 0), (Value.ref 79), Value.none, (Value.ref 80), (Value.ref 81), (Value.ref 82), (Value.int 285 0), (Value.int 16 0), (Value.str (Str.ofString "/claim/cut.py") 286)])) (List.toArray []))),
  (84, fobj (stIn PySem.Challenge.rw_uf060008_11.prog 6 0) (Str.ofString "__init__") (Str.ofString "Hand.__init__") Value.none Value.none Value.none (Value.str (Str.ofString "stuckbell.hand") 264) Option.none (Value.ref 83) Value.none),
  (88, (Obj.mk (Value.type "code") Option.none (Data.fields (List.toArray [(Value.str (Str.ofString "send") 288), (Value.str (Str.ofString "Hand.send") 289), (Value.str (Str.ofString "/claim/cut.py") 290), (Value.int 31 0), (Value.int 3 0), (Value.int 0 0), (Value.int 0 0), (Value.int 3 0), (Value.ref 85), (Value.bool Bool.true), (Value.int 181 0), (Value.ref 86), Value.none, Value.none, Value.none, (Value.ref 87), (Value.int 291 0), (Value.int 31 0), (Value.str (Str.ofString "/claim/cut.py") 292)])) (List.toArray []))),
  (89, fobj (stIn PySem.Challenge.rw_uf060008_11.prog 6 1) (Str.ofString "send") (Str.ofString "Hand.send") Value.none Value.none Value.none (Value.str (Str.ofString "stuckbell.hand") 264) Option.none (Value.ref 88) Value.none),
  (95, (Obj.mk (Value.type "code") Option.none (Data.fields (List.toArray [(Value.str (Str.ofString "begin") 294), (Value.str (Str.ofString "Hand.begin") 295), (Value.str (Str.ofString "/claim/cut.py") 296), (Value.int 35 0), (Value.int 1 0), (Value.int 0 0), (Value.int 0 0), (Value.int 3 0), (Value.ref 90), (Value.bool Bool.true), (Value.int 181 0), (Value.ref 91), Value.none, (Value.ref 92), (Value.ref 93), (Value.ref 94), (Value.int 298 0), (Value.int 35 0), (Value.str (Str.ofString "/claim/cut.py") 299)])) (List.toArray []))),
  (96, fobj (stIn PySem.Challenge.rw_uf060008_11.prog 6 2) (Str.ofString "begin") (Str.ofString "Hand.begin") Value.none Value.none Value.none (Value.str (Str.ofString "stuckbell.hand") 264) Option.none (Value.ref 95) Value.none),
  (102, (Obj.mk (Value.type "code") Option.none (Data.fields (List.toArray [(Value.str (Str.ofString "come") 301), (Value.str (Str.ofString "Hand.come") 302), (Value.str (Str.ofString "/claim/cut.py") 303), (Value.int 41 0), (Value.int 2 0), (Value.int 0 0), (Value.int 0 0), (Value.int 3 0), (Value.ref 97), (Value.bool Bool.true), (Value.int 181 0), (Value.ref 98), Value.none, (Value.ref 99), (Value.ref 100), (Value.ref 101), (Value.int 310 0), (Value.int 41 0), (Value.str (Str.ofString "/claim/cut.py") 311)])) (List.toArray []))),
  (103, fobj (stIn PySem.Challenge.rw_uf060008_11.prog 6 3) (Str.ofString "come") (Str.ofString "Hand.come") Value.none Value.none Value.none (Value.str (Str.ofString "stuckbell.hand") 264) Option.none (Value.ref 102) Value.none),
  (109, (Obj.mk (Value.type "code") Option.none (Data.fields (List.toArray [(Value.str (Str.ofString "asked") 313), (Value.str (Str.ofString "Hand.asked") 314), (Value.str (Str.ofString "/claim/cut.py") 315), (Value.int 59 0), (Value.int 2 0), (Value.int 0 0), (Value.int 0 0), (Value.int 3 0), (Value.ref 104), (Value.bool Bool.true), (Value.int 181 0), (Value.ref 105), Value.none, (Value.ref 106), (Value.ref 107), (Value.ref 108), (Value.int 318 0), (Value.int 59 0), (Value.str (Str.ofString "/claim/cut.py") 319)])) (List.toArray []))),
  (110, fobj (stIn PySem.Challenge.rw_uf060008_11.prog 6 4) (Str.ofString "asked") (Str.ofString "Hand.asked") Value.none Value.none Value.none (Value.str (Str.ofString "stuckbell.hand") 264) Option.none (Value.ref 109) Value.none),
  (114, (Obj.mk (Value.type "code") Option.none (Data.fields (List.toArray [(Value.str (Str.ofString "told") 321), (Value.str (Str.ofString "Hand.told") 322), (Value.str (Str.ofString "/claim/cut.py") 323), (Value.int 67 0), (Value.int 2 0), (Value.int 0 0), (Value.int 0 0), (Value.int 3 0), (Value.ref 111), (Value.bool Bool.true), (Value.int 181 0), (Value.ref 112), Value.none, Value.none, Value.none, (Value.ref 113), (Value.int 324 0), (Value.int 67 0), (Value.str (Str.ofString "/claim/cut.py") 325)])) (List.toArray []))),
  (115, fobj (stIn PySem.Challenge.rw_uf060008_11.prog 6 5) (Str.ofString "told") (Str.ofString "Hand.told") Value.none Value.none Value.none (Value.str (Str.ofString "stuckbell.hand") 264) Option.none (Value.ref 114) Value.none),
  (117, (Obj.mk (Value.type "dict") Option.none (Data.dict (List.toArray [(DictEntry.mk (PyData.keyHash P (Str.ofString "__module__")) (Value.str (Str.ofString "__module__") 273) (Value.str (Str.ofString "stuckbell.hand") 264)), (DictEntry.mk (PyData.keyHash P (Str.ofString "__firstlineno__")) (Value.str (Str.ofString "__firstlineno__") 277) (Value.int 14 276)), (DictEntry.mk (PyData.keyHash P (Str.ofString "__init__")) (Value.str (Str.ofString "__init__") 287) (Value.ref 84)), (DictEntry.mk (PyData.keyHash P (Str.ofString "send")) (Value.str (Str.ofString "send") 293) (Value.ref 89)), (DictEntry.mk (PyData.keyHash P (Str.ofString "begin")) (Value.str (Str.ofString "begin") 300) (Value.ref 96)), (DictEntry.mk (PyData.keyHash P (Str.ofString "come")) (Value.str (Str.ofString "come") 312) (Value.ref 103)), (DictEntry.mk (PyData.keyHash P (Str.ofString "asked")) (Value.str (Str.ofString "asked") 320) (Value.ref 110)), (DictEntry.mk (PyData.keyHash P (Str.ofString "told")) (Value.str (Str.ofString "told") 326) (Value.ref 115)), (DictEntry.mk (PyData.keyHash P (Str.ofString "__static_attributes__")) (Value.str (Str.ofString "__static_attributes__") 337) (Value.ref 116)), (DictEntry.mk (PyData.keyHash P (Str.ofString "__dict__")) (Value.str (Str.ofString "__dict__") 339) (Value.ref 119)), (DictEntry.mk (PyData.keyHash P (Str.ofString "__weakref__")) (Value.str (Str.ofString "__weakref__") 341) (Value.ref 120)), (DictEntry.mk (PyData.keyHash P (Str.ofString "__doc__")) (Value.str (Str.ofString "__doc__") 342) Value.none)]) 4) (List.toArray []))),
  (118, (Obj.mk (Value.type "type") Option.none (Data.cls (ClassData.mk (Str.ofString "Hand") [(Value.type "object")] [(Value.ref 118), (Value.type "object")] 117 (Str.ofString "Hand") Bool.true [] [] Bool.false Option.none Bool.false)) (List.toArray [Option.none, Option.none, (Option.some (Value.str (Str.ofString "Hand") 266)), (Option.some (Value.str (Str.ofString "Hand") 274)), (Option.some (Value.builtin "object.__new__")), (Option.some (Value.bool Bool.true))]))),
  (119, (Obj.mk (Value.type "getset_descriptor") Option.none (Data.fields (List.toArray [(Value.str (Str.ofString "__dict__") 338), (Value.ref 118), (Value.builtin "function.__dict__"), (Value.builtin "function.__dict__#set")])) (List.toArray []))),
  (120, (Obj.mk (Value.type "getset_descriptor") Option.none (Data.fields (List.toArray [(Value.str (Str.ofString "__weakref__") 340), (Value.ref 118), (Value.builtin "ExceptionGroup.__weakref__"), Value.none])) (List.toArray []))),
  (128, (Obj.mk (Value.type "code") Option.none (Data.fields (List.toArray [(Value.str (Str.ofString "is_place") 349), (Value.str (Str.ofString "is_place") 350), (Value.str (Str.ofString "/claim/cut.py") 351), (Value.int 77 0), (Value.int 2 0), (Value.int 0 0), (Value.int 0 0), (Value.int 3 0), (Value.ref 123), (Value.bool Bool.true), (Value.int 181 0), (Value.ref 124), Value.none, (Value.ref 125), (Value.ref 126), (Value.ref 127), (Value.int 354 0), (Value.int 77 0), (Value.str (Str.ofString "/claim/cut.py") 355)])) (List.toArray []))),
  (129, fobj (stAt PySem.Challenge.rw_uf060008_11.prog 9) (Str.ofString "is_place") (Str.ofString "is_place") Value.none Value.none Value.none (Value.str (Str.ofString "stuckbell.waits") 345) Option.none (Value.ref 128) Value.none),
  (135, (Obj.mk (Value.type "code") Option.none (Data.fields (List.toArray [(Value.str (Str.ofString "is_wait") 357), (Value.str (Str.ofString "is_wait") 358), (Value.str (Str.ofString "/claim/cut.py") 359), (Value.int 79 0), (Value.int 2 0), (Value.int 0 0), (Value.int 0 0), (Value.int 3 0), (Value.ref 130), (Value.bool Bool.true), (Value.int 181 0), (Value.ref 131), Value.none, (Value.ref 132), (Value.ref 133), (Value.ref 134), (Value.int 364 0), (Value.int 79 0), (Value.str (Str.ofString "/claim/cut.py") 365)])) (List.toArray []))),
  (136, fobj (stAt PySem.Challenge.rw_uf060008_11.prog 10) (Str.ofString "is_wait") (Str.ofString "is_wait") Value.none Value.none Value.none (Value.str (Str.ofString "stuckbell.waits") 345) Option.none (Value.ref 135) Value.none),
  (142, (Obj.mk (Value.type "code") Option.none (Data.fields (List.toArray [(Value.str (Str.ofString "need") 367), (Value.str (Str.ofString "need") 368), (Value.str (Str.ofString "/claim/cut.py") 369), (Value.int 92 0), (Value.int 1 0), (Value.int 0 0), (Value.int 0 0), (Value.int 3 0), (Value.ref 137), (Value.bool Bool.true), (Value.int 181 0), (Value.ref 138), Value.none, (Value.ref 139), (Value.ref 140), (Value.ref 141), (Value.int 373 0), (Value.int 92 0), (Value.str (Str.ofString "/claim/cut.py") 374)])) (List.toArray []))),
  (143, fobj (stAt PySem.Challenge.rw_uf060008_11.prog 11) (Str.ofString "need") (Str.ofString "need") Value.none Value.none Value.none (Value.str (Str.ofString "stuckbell.waits") 345) Option.none (Value.ref 142) Value.none),
  (147, (Obj.mk (Value.type "code") Option.none (Data.fields (List.toArray [(Value.str (Str.ofString "goes") 376), (Value.str (Str.ofString "goes") 377), (Value.str (Str.ofString "/claim/cut.py") 378), (Value.int 99 0), (Value.int 2 0), (Value.int 0 0), (Value.int 0 0), (Value.int 3 0), (Value.ref 144), (Value.bool Bool.true), (Value.int 181 0), (Value.ref 145), Value.none, Value.none, Value.none, (Value.ref 146), (Value.int 379 0), (Value.int 99 0), (Value.str (Str.ofString "/claim/cut.py") 380)])) (List.toArray []))),
  (148, fobj (stAt PySem.Challenge.rw_uf060008_11.prog 12) (Str.ofString "goes") (Str.ofString "goes") Value.none Value.none Value.none (Value.str (Str.ofString "stuckbell.waits") 345) Option.none (Value.ref 147) Value.none),
  (154, (Obj.mk (Value.type "code") Option.none (Data.fields (List.toArray [(Value.str (Str.ofString "freed") 382), (Value.str (Str.ofString "freed") 383), (Value.str (Str.ofString "/claim/cut.py") 384), (Value.int 104 0), (Value.int 1 0), (Value.int 0 0), (Value.int 0 0), (Value.int 3 0), (Value.ref 149), (Value.bool Bool.true), (Value.int 181 0), (Value.ref 150), Value.none, (Value.ref 151), (Value.ref 152), (Value.ref 153), (Value.int 391 0), (Value.int 104 0), (Value.str (Str.ofString "/claim/cut.py") 392)])) (List.toArray []))),
  (155, fobj (stAt PySem.Challenge.rw_uf060008_11.prog 13) (Str.ofString "freed") (Str.ofString "freed") Value.none Value.none Value.none (Value.str (Str.ofString "stuckbell.waits") 345) Option.none (Value.ref 154) Value.none),
  (159, (Obj.mk (Value.type "code") Option.none (Data.fields (List.toArray [(Value.str (Str.ofString "stuck") 394), (Value.str (Str.ofString "stuck") 395), (Value.str (Str.ofString "/claim/cut.py") 396), (Value.int 121 0), (Value.int 1 0), (Value.int 0 0), (Value.int 0 0), (Value.int 3 0), (Value.ref 156), (Value.bool Bool.true), (Value.int 181 0), (Value.ref 157), Value.none, Value.none, Value.none, (Value.ref 158), (Value.int 397 0), (Value.int 121 0), (Value.str (Str.ofString "/claim/cut.py") 398)])) (List.toArray []))),
  (160, fobj (stAt PySem.Challenge.rw_uf060008_11.prog 14) (Str.ofString "stuck") (Str.ofString "stuck") Value.none Value.none Value.none (Value.str (Str.ofString "stuckbell.waits") 345) Option.none (Value.ref 159) Value.none),
  (164, (Obj.mk (Value.type "code") Option.none (Data.fields (List.toArray [(Value.str (Str.ofString "shows") 400), (Value.str (Str.ofString "shows") 401), (Value.str (Str.ofString "/claim/cut.py") 402), (Value.int 124 0), (Value.int 2 0), (Value.int 0 0), (Value.int 0 0), (Value.int 3 0), (Value.ref 161), (Value.bool Bool.true), (Value.int 181 0), (Value.ref 162), Value.none, Value.none, Value.none, (Value.ref 163), (Value.int 403 0), (Value.int 124 0), (Value.str (Str.ofString "/claim/cut.py") 404)])) (List.toArray []))),
  (165, fobj (stAt PySem.Challenge.rw_uf060008_11.prog 15) (Str.ofString "shows") (Str.ofString "shows") Value.none Value.none Value.none (Value.str (Str.ofString "stuckbell.waits") 345) Option.none (Value.ref 164) Value.none),
  (176, (Obj.mk (Value.type "code") Option.none (Data.fields (List.toArray [(Value.str (Str.ofString "__init__") 420), (Value.str (Str.ofString "Net.__init__") 421), (Value.str (Str.ofString "/claim/cut.py") 422), (Value.int 142 0), (Value.int 3 0), (Value.int 0 0), (Value.int 0 0), (Value.int 3 0), (Value.ref 173), (Value.bool Bool.true), (Value.int 181 0), (Value.ref 174), Value.none, Value.none, Value.none, (Value.ref 175), (Value.int 423 0), (Value.int 142 0), (Value.str (Str.ofString "/claim/cut.py") 424)])) (List.toArray []))),
  (177, fobj (stIn PySem.Challenge.rw_uf060008_11.prog 17 0) (Str.ofString "__init__") (Str.ofString "Net.__init__") Value.none Value.none Value.none (Value.str (Str.ofString "stuckbell.net") 406) Option.none (Value.ref 176) Value.none),
  (183, (Obj.mk (Value.type "code") Option.none (Data.fields (List.toArray [(Value.str (Str.ofString "put") 426), (Value.str (Str.ofString "Net.put") 427), (Value.str (Str.ofString "/claim/cut.py") 428), (Value.int 152 0), (Value.int 2 0), (Value.int 0 0), (Value.int 0 0), (Value.int 3 0), (Value.ref 178), (Value.bool Bool.true), (Value.int 181 0), (Value.ref 179), Value.none, (Value.ref 180), (Value.ref 181), (Value.ref 182), (Value.int 431 0), (Value.int 152 0), (Value.str (Str.ofString "/claim/cut.py") 432)])) (List.toArray []))),
  (184, fobj (stIn PySem.Challenge.rw_uf060008_11.prog 17 1) (Str.ofString "put") (Str.ofString "Net.put") Value.none Value.none Value.none (Value.str (Str.ofString "stuckbell.net") 406) Option.none (Value.ref 183) Value.none),
  (190, (Obj.mk (Value.type "code") Option.none (Data.fields (List.toArray [(Value.str (Str.ofString "hand") 434), (Value.str (Str.ofString "Net.hand") 435), (Value.str (Str.ofString "/claim/cut.py") 436), (Value.int 156 0), (Value.int 2 0), (Value.int 0 0), (Value.int 0 0), (Value.int 3 0), (Value.ref 185), (Value.bool Bool.true), (Value.int 181 0), (Value.ref 186), Value.none, (Value.ref 187), (Value.ref 188), (Value.ref 189), (Value.int 439 0), (Value.int 156 0), (Value.str (Str.ofString "/claim/cut.py") 440)])) (List.toArray []))),
  (191, fobj (stIn PySem.Challenge.rw_uf060008_11.prog 17 2) (Str.ofString "hand") (Str.ofString "Net.hand") Value.none Value.none Value.none (Value.str (Str.ofString "stuckbell.net") 406) Option.none (Value.ref 190) Value.none),
  (197, (Obj.mk (Value.type "code") Option.none (Data.fields (List.toArray [(Value.str (Str.ofString "letters") 442), (Value.str (Str.ofString "Net.letters") 443), (Value.str (Str.ofString "/claim/cut.py") 444), (Value.int 161 0), (Value.int 1 0), (Value.int 0 0), (Value.int 0 0), (Value.int 3 0), (Value.ref 192), (Value.bool Bool.true), (Value.int 181 0), (Value.ref 193), Value.none, (Value.ref 194), (Value.ref 195), (Value.ref 196), (Value.int 446 0), (Value.int 161 0), (Value.str (Str.ofString "/claim/cut.py") 447)])) (List.toArray []))),
  (198, fobj (stIn PySem.Challenge.rw_uf060008_11.prog 17 3) (Str.ofString "letters") (Str.ofString "Net.letters") Value.none Value.none Value.none (Value.str (Str.ofString "stuckbell.net") 406) Option.none (Value.ref 197) Value.none),
  (204, (Obj.mk (Value.type "code") Option.none (Data.fields (List.toArray [(Value.str (Str.ofString "bring") 449), (Value.str (Str.ofString "Net.bring") 450), (Value.str (Str.ofString "/claim/cut.py") 451), (Value.int 164 0), (Value.int 2 0), (Value.int 0 0), (Value.int 0 0), (Value.int 3 0), (Value.ref 199), (Value.bool Bool.true), (Value.int 181 0), (Value.ref 200), Value.none, (Value.ref 201), (Value.ref 202), (Value.ref 203), (Value.int 456 0), (Value.int 164 0), (Value.str (Str.ofString "/claim/cut.py") 457)])) (List.toArray []))),
  (205, fobj (stIn PySem.Challenge.rw_uf060008_11.prog 17 4) (Str.ofString "bring") (Str.ofString "Net.bring") Value.none Value.none Value.none (Value.str (Str.ofString "stuckbell.net") 406) Option.none (Value.ref 204) Value.none),
  (211, (Obj.mk (Value.type "code") Option.none (Data.fields (List.toArray [(Value.str (Str.ofString "sent") 459), (Value.str (Str.ofString "Net.sent") 460), (Value.str (Str.ofString "/claim/cut.py") 461), (Value.int 172 0), (Value.int 1 0), (Value.int 0 0), (Value.int 0 0), (Value.int 3 0), (Value.ref 206), (Value.bool Bool.true), (Value.int 181 0), (Value.ref 207), Value.none, (Value.ref 208), (Value.ref 209), (Value.ref 210), (Value.int 463 0), (Value.int 172 0), (Value.str (Str.ofString "/claim/cut.py") 464)])) (List.toArray []))),
  (212, fobj (stIn PySem.Challenge.rw_uf060008_11.prog 17 5) (Str.ofString "sent") (Str.ofString "Net.sent") Value.none Value.none Value.none (Value.str (Str.ofString "stuckbell.net") 406) Option.none (Value.ref 211) Value.none),
  (218, (Obj.mk (Value.type "code") Option.none (Data.fields (List.toArray [(Value.str (Str.ofString "rung") 466), (Value.str (Str.ofString "Net.rung") 467), (Value.str (Str.ofString "/claim/cut.py") 468), (Value.int 175 0), (Value.int 1 0), (Value.int 0 0), (Value.int 0 0), (Value.int 3 0), (Value.ref 213), (Value.bool Bool.true), (Value.int 181 0), (Value.ref 214), Value.none, (Value.ref 215), (Value.ref 216), (Value.ref 217), (Value.int 471 0), (Value.int 175 0), (Value.str (Str.ofString "/claim/cut.py") 472)])) (List.toArray []))),
  (219, fobj (stIn PySem.Challenge.rw_uf060008_11.prog 17 6) (Str.ofString "rung") (Str.ofString "Net.rung") Value.none Value.none Value.none (Value.str (Str.ofString "stuckbell.net") 406) Option.none (Value.ref 218) Value.none),
  (223, (Obj.mk (Value.type "code") Option.none (Data.fields (List.toArray [(Value.str (Str.ofString "shown") 474), (Value.str (Str.ofString "Net.shown") 475), (Value.str (Str.ofString "/claim/cut.py") 476), (Value.int 181 0), (Value.int 1 0), (Value.int 0 0), (Value.int 0 0), (Value.int 3 0), (Value.ref 220), (Value.bool Bool.true), (Value.int 181 0), (Value.ref 221), Value.none, Value.none, Value.none, (Value.ref 222), (Value.int 477 0), (Value.int 181 0), (Value.str (Str.ofString "/claim/cut.py") 478)])) (List.toArray []))),
  (224, fobj (stIn PySem.Challenge.rw_uf060008_11.prog 17 7) (Str.ofString "shown") (Str.ofString "Net.shown") Value.none Value.none Value.none (Value.str (Str.ofString "stuckbell.net") 406) Option.none (Value.ref 223) Value.none),
  (230, (Obj.mk (Value.type "code") Option.none (Data.fields (List.toArray [(Value.str (Str.ofString "owed_by") 480), (Value.str (Str.ofString "Net.owed_by") 481), (Value.str (Str.ofString "/claim/cut.py") 482), (Value.int 184 0), (Value.int 2 0), (Value.int 0 0), (Value.int 0 0), (Value.int 3 0), (Value.ref 225), (Value.bool Bool.true), (Value.int 181 0), (Value.ref 226), Value.none, (Value.ref 227), (Value.ref 228), (Value.ref 229), (Value.int 485 0), (Value.int 184 0), (Value.str (Str.ofString "/claim/cut.py") 486)])) (List.toArray []))),
  (231, fobj (stIn PySem.Challenge.rw_uf060008_11.prog 17 8) (Str.ofString "owed_by") (Str.ofString "Net.owed_by") Value.none Value.none Value.none (Value.str (Str.ofString "stuckbell.net") 406) Option.none (Value.ref 230) Value.none),
  (237, (Obj.mk (Value.type "code") Option.none (Data.fields (List.toArray [(Value.str (Str.ofString "waker_of") 488), (Value.str (Str.ofString "Net.waker_of") 489), (Value.str (Str.ofString "/claim/cut.py") 490), (Value.int 187 0), (Value.int 2 0), (Value.int 0 0), (Value.int 0 0), (Value.int 3 0), (Value.ref 232), (Value.bool Bool.true), (Value.int 181 0), (Value.ref 233), Value.none, (Value.ref 234), (Value.ref 235), (Value.ref 236), (Value.int 493 0), (Value.int 187 0), (Value.str (Str.ofString "/claim/cut.py") 494)])) (List.toArray []))),
  (238, fobj (stIn PySem.Challenge.rw_uf060008_11.prog 17 9) (Str.ofString "waker_of") (Str.ofString "Net.waker_of") Value.none Value.none Value.none (Value.str (Str.ofString "stuckbell.net") 406) Option.none (Value.ref 237) Value.none),
  (244, (Obj.mk (Value.type "code") Option.none (Data.fields (List.toArray [(Value.str (Str.ofString "freed_yet") 496), (Value.str (Str.ofString "Net.freed_yet") 497), (Value.str (Str.ofString "/claim/cut.py") 498), (Value.int 190 0), (Value.int 2 0), (Value.int 0 0), (Value.int 0 0), (Value.int 3 0), (Value.ref 239), (Value.bool Bool.true), (Value.int 181 0), (Value.ref 240), Value.none, (Value.ref 241), (Value.ref 242), (Value.ref 243), (Value.int 501 0), (Value.int 190 0), (Value.str (Str.ofString "/claim/cut.py") 502)])) (List.toArray []))),
  (245, fobj (stIn PySem.Challenge.rw_uf060008_11.prog 17 10) (Str.ofString "freed_yet") (Str.ofString "Net.freed_yet") Value.none Value.none Value.none (Value.str (Str.ofString "stuckbell.net") 406) Option.none (Value.ref 244) Value.none),
  (247, (Obj.mk (Value.type "dict") Option.none (Data.dict (List.toArray [(DictEntry.mk (PyData.keyHash P (Str.ofString "__module__")) (Value.str (Str.ofString "__module__") 415) (Value.str (Str.ofString "stuckbell.net") 406)), (DictEntry.mk (PyData.keyHash P (Str.ofString "__firstlineno__")) (Value.str (Str.ofString "__firstlineno__") 419) (Value.int 140 418)), (DictEntry.mk (PyData.keyHash P (Str.ofString "__init__")) (Value.str (Str.ofString "__init__") 425) (Value.ref 177)), (DictEntry.mk (PyData.keyHash P (Str.ofString "put")) (Value.str (Str.ofString "put") 433) (Value.ref 184)), (DictEntry.mk (PyData.keyHash P (Str.ofString "hand")) (Value.str (Str.ofString "hand") 441) (Value.ref 191)), (DictEntry.mk (PyData.keyHash P (Str.ofString "letters")) (Value.str (Str.ofString "letters") 448) (Value.ref 198)), (DictEntry.mk (PyData.keyHash P (Str.ofString "bring")) (Value.str (Str.ofString "bring") 458) (Value.ref 205)), (DictEntry.mk (PyData.keyHash P (Str.ofString "sent")) (Value.str (Str.ofString "sent") 465) (Value.ref 212)), (DictEntry.mk (PyData.keyHash P (Str.ofString "rung")) (Value.str (Str.ofString "rung") 473) (Value.ref 219)), (DictEntry.mk (PyData.keyHash P (Str.ofString "shown")) (Value.str (Str.ofString "shown") 479) (Value.ref 224)), (DictEntry.mk (PyData.keyHash P (Str.ofString "owed_by")) (Value.str (Str.ofString "owed_by") 487) (Value.ref 231)), (DictEntry.mk (PyData.keyHash P (Str.ofString "waker_of")) (Value.str (Str.ofString "waker_of") 495) (Value.ref 238)), (DictEntry.mk (PyData.keyHash P (Str.ofString "freed_yet")) (Value.str (Str.ofString "freed_yet") 503) (Value.ref 245)), (DictEntry.mk (PyData.keyHash P (Str.ofString "__static_attributes__")) (Value.str (Str.ofString "__static_attributes__") 508) (Value.ref 246)), (DictEntry.mk (PyData.keyHash P (Str.ofString "__dict__")) (Value.str (Str.ofString "__dict__") 510) (Value.ref 249)), (DictEntry.mk (PyData.keyHash P (Str.ofString "__weakref__")) (Value.str (Str.ofString "__weakref__") 512) (Value.ref 250)), (DictEntry.mk (PyData.keyHash P (Str.ofString "__doc__")) (Value.str (Str.ofString "__doc__") 513) Value.none)]) 4) (List.toArray []))),
  (248, (Obj.mk (Value.type "type") Option.none (Data.cls (ClassData.mk (Str.ofString "Net") [(Value.type "object")] [(Value.ref 248), (Value.type "object")] 247 (Str.ofString "Net") Bool.true [] [] Bool.false Option.none Bool.false)) (List.toArray [Option.none, Option.none, (Option.some (Value.str (Str.ofString "Net") 408)), (Option.some (Value.str (Str.ofString "Net") 416)), (Option.some (Value.builtin "object.__new__")), (Option.some (Value.bool Bool.true))]))),
  (249, (Obj.mk (Value.type "getset_descriptor") Option.none (Data.fields (List.toArray [(Value.str (Str.ofString "__dict__") 509), (Value.ref 248), (Value.builtin "function.__dict__"), (Value.builtin "function.__dict__#set")])) (List.toArray []))),
  (250, (Obj.mk (Value.type "getset_descriptor") Option.none (Data.fields (List.toArray [(Value.str (Str.ofString "__weakref__") 511), (Value.ref 248), (Value.builtin "ExceptionGroup.__weakref__"), Value.none])) (List.toArray []))),
  (258, (Obj.mk (Value.type "code") Option.none (Data.fields (List.toArray [(Value.str (Str.ofString "_law_cell_at") 518), (Value.str (Str.ofString "_law_cell_at") 519), (Value.str (Str.ofString "/claim/cut.py") 520), (Value.int 193 0), (Value.int 2 0), (Value.int 0 0), (Value.int 0 0), (Value.int 3 0), (Value.ref 253), (Value.bool Bool.true), (Value.int 181 0), (Value.ref 254), Value.none, (Value.ref 255), (Value.ref 256), (Value.ref 257), (Value.int 523 0), (Value.int 193 0), (Value.str (Str.ofString "/claim/cut.py") 524)])) (List.toArray []))),
  (259, fobj (stAt PySem.Challenge.rw_uf060008_11.prog 19) (Str.ofString "_law_cell_at") (Str.ofString "_law_cell_at") Value.none Value.none Value.none (Value.str (Str.ofString "law_uf060008_11") 516) Option.none (Value.ref 258) Value.none),
  (265, (Obj.mk (Value.type "code") Option.none (Data.fields (List.toArray [(Value.str (Str.ofString "_law_deed") 526), (Value.str (Str.ofString "_law_deed") 527), (Value.str (Str.ofString "/claim/cut.py") 528), (Value.int 197 0), (Value.int 5 0), (Value.int 0 0), (Value.int 0 0), (Value.int 3 0), (Value.ref 260), (Value.bool Bool.true), (Value.int 181 0), (Value.ref 261), Value.none, (Value.ref 262), (Value.ref 263), (Value.ref 264), (Value.int 534 0), (Value.int 197 0), (Value.str (Str.ofString "/claim/cut.py") 535)])) (List.toArray []))),
  (266, fobj (stAt PySem.Challenge.rw_uf060008_11.prog 20) (Str.ofString "_law_deed") (Str.ofString "_law_deed") Value.none Value.none Value.none (Value.str (Str.ofString "law_uf060008_11") 516) Option.none (Value.ref 265) Value.none),
  (272, (Obj.mk (Value.type "code") Option.none (Data.fields (List.toArray [(Value.str (Str.ofString "_law_by_name") 537), (Value.str (Str.ofString "_law_by_name") 538), (Value.str (Str.ofString "/claim/cut.py") 539), (Value.int 214 0), (Value.int 5 0), (Value.int 0 0), (Value.int 0 0), (Value.int 3 0), (Value.ref 267), (Value.bool Bool.true), (Value.int 181 0), (Value.ref 268), Value.none, (Value.ref 269), (Value.ref 270), (Value.ref 271), (Value.int 546 0), (Value.int 214 0), (Value.str (Str.ofString "/claim/cut.py") 547)])) (List.toArray []))),
  (273, fobj (stAt PySem.Challenge.rw_uf060008_11.prog 21) (Str.ofString "_law_by_name") (Str.ofString "_law_by_name") Value.none Value.none Value.none (Value.str (Str.ofString "law_uf060008_11") 516) Option.none (Value.ref 272) Value.none),
  (279, (Obj.mk (Value.type "code") Option.none (Data.fields (List.toArray [(Value.str (Str.ofString "_law_by_base") 549), (Value.str (Str.ofString "_law_by_base") 550), (Value.str (Str.ofString "/claim/cut.py") 551), (Value.int 224 0), (Value.int 5 0), (Value.int 0 0), (Value.int 0 0), (Value.int 3 0), (Value.ref 274), (Value.bool Bool.true), (Value.int 181 0), (Value.ref 275), Value.none, (Value.ref 276), (Value.ref 277), (Value.ref 278), (Value.int 559 0), (Value.int 224 0), (Value.str (Str.ofString "/claim/cut.py") 560)])) (List.toArray []))),
  (280, fobj (stAt PySem.Challenge.rw_uf060008_11.prog 22) (Str.ofString "_law_by_base") (Str.ofString "_law_by_base") Value.none Value.none Value.none (Value.str (Str.ofString "law_uf060008_11") 516) Option.none (Value.ref 279) Value.none),
  (286, (Obj.mk (Value.type "code") Option.none (Data.fields (List.toArray [(Value.str (Str.ofString "_law_said") 562), (Value.str (Str.ofString "_law_said") 563), (Value.str (Str.ofString "/claim/cut.py") 564), (Value.int 235 0), (Value.int 6 0), (Value.int 0 0), (Value.int 0 0), (Value.int 3 0), (Value.ref 281), (Value.bool Bool.true), (Value.int 181 0), (Value.ref 282), Value.none, (Value.ref 283), (Value.ref 284), (Value.ref 285), (Value.int 571 0), (Value.int 235 0), (Value.str (Str.ofString "/claim/cut.py") 572)])) (List.toArray []))),
  (287, fobj (stAt PySem.Challenge.rw_uf060008_11.prog 23) (Str.ofString "_law_said") (Str.ofString "_law_said") Value.none Value.none Value.none (Value.str (Str.ofString "law_uf060008_11") 516) Option.none (Value.ref 286) Value.none),
  (291, (Obj.mk (Value.type "code") Option.none (Data.fields (List.toArray [(Value.str (Str.ofString "_law_seen") 574), (Value.str (Str.ofString "_law_seen") 575), (Value.str (Str.ofString "/claim/cut.py") 576), (Value.int 239 0), (Value.int 2 0), (Value.int 0 0), (Value.int 0 0), (Value.int 3 0), (Value.ref 288), (Value.bool Bool.true), (Value.int 181 0), (Value.ref 289), Value.none, Value.none, Value.none, (Value.ref 290), (Value.int 577 0), (Value.int 239 0), (Value.str (Str.ofString "/claim/cut.py") 578)])) (List.toArray []))),
  (292, fobj (stAt PySem.Challenge.rw_uf060008_11.prog 24) (Str.ofString "_law_seen") (Str.ofString "_law_seen") Value.none Value.none Value.none (Value.str (Str.ofString "law_uf060008_11") 516) Option.none (Value.ref 291) Value.none),
  (298, (Obj.mk (Value.type "code") Option.none (Data.fields (List.toArray [(Value.str (Str.ofString "_law_wrong") 580), (Value.str (Str.ofString "_law_wrong") 581), (Value.str (Str.ofString "/claim/cut.py") 582), (Value.int 242 0), (Value.int 3 0), (Value.int 0 0), (Value.int 0 0), (Value.int 3 0), (Value.ref 293), (Value.bool Bool.true), (Value.int 181 0), (Value.ref 294), Value.none, (Value.ref 295), (Value.ref 296), (Value.ref 297), (Value.int 586 0), (Value.int 242 0), (Value.str (Str.ofString "/claim/cut.py") 587)])) (List.toArray []))),
  (299, fobj (stAt PySem.Challenge.rw_uf060008_11.prog 25) (Str.ofString "_law_wrong") (Str.ofString "_law_wrong") Value.none Value.none Value.none (Value.str (Str.ofString "law_uf060008_11") 516) Option.none (Value.ref 298) Value.none),
  (303, (Obj.mk (Value.type "code") Option.none (Data.fields (List.toArray [(Value.str (Str.ofString "law") 589), (Value.str (Str.ofString "law") 590), (Value.str (Str.ofString "/claim/cut.py") 591), (Value.int 244 0), (Value.int 1 0), (Value.int 0 0), (Value.int 0 0), (Value.int 3 0), (Value.ref 300), (Value.bool Bool.true), (Value.int 181 0), (Value.ref 301), Value.none, Value.none, Value.none, (Value.ref 302), (Value.int 592 0), (Value.int 244 0), (Value.str (Str.ofString "/claim/cut.py") 593)])) (List.toArray []))),
  (304, fobj (stAt PySem.Challenge.rw_uf060008_11.prog 26) (Str.ofString "law") (Str.ofString "law") Value.none Value.none Value.none (Value.str (Str.ofString "law_uf060008_11") 516) Option.none (Value.ref 303) Value.none)]
noncomputable def loose11 : List Str := [Str.ofString "BellError", Str.ofString "BadWaits", Str.ofString "NoHand", Str.ofString "NoLetter", Str.ofString "Hand", Str.ofString "MOST_HANDS", Str.ofString "is_place", Str.ofString "is_wait", Str.ofString "need", Str.ofString "goes", Str.ofString "freed", Str.ofString "stuck", Str.ofString "shows", Str.ofString "Net", Str.ofString "_law_cell_at", Str.ofString "_law_deed", Str.ofString "_law_by_name", Str.ofString "_law_by_base", Str.ofString "_law_said", Str.ofString "_law_seen", Str.ofString "_law_wrong"]

noncomputable def q11 : Program := view PySem.Challenge.rw_uf060008_11.prog [26]
theorem said11 : PySem.Challenge.rw_uf060008_11.wellSaid = true := by kernel_rfl
theorem keys11 (P : Params) : [2, 3, 23, 24, 25, 40, 41, 43, 44, 55, 56, 67, 68, 83, 84, 88, 89, 95, 96, 102, 103, 109, 110, 114, 115, 117, 118, 119, 120, 128, 129, 135, 136, 142, 143, 147, 148, 154, 155, 159, 160, 164, 165, 176, 177, 183, 184, 190, 191, 197, 198, 204, 205, 211, 212, 218, 219, 223, 224, 230, 231, 237, 238, 244, 245, 247, 248, 249, 250, 258, 259, 265, 266, 272, 273, 279, 280, 286, 287, 291, 292, 298, 299, 303, 304] = (K11 P).map (·.1) := by kernel_rfl
noncomputable def hook11 : Hook := kHook K11 [2, 3, 23, 24, 25, 40, 41, 43, 44, 55, 56, 67, 68, 83, 84, 88, 89, 95, 96, 102, 103, 109, 110, 114, 115, 117, 118, 119, 120, 128, 129, 135, 136, 142, 143, 147, 148, 154, 155, 159, 160, 164, 165, 176, 177, 183, 184, 190, 191, 197, 198, 204, 205, 211, 212, 218, 219, 223, 224, 230, 231, 237, 238, 244, 245, 247, 248, 249, 250, 258, 259, 265, 266, 272, 273, 279, 280, 286, 287, 291, 292, 298, 299, 303, 304] keys11
theorem left11 : LeftO PySem.Challenge.rw_uf060008_11.row.prog q11 loose11 (fun s => recOk (RowW.records PySem.Challenge.rw_uf060008_11.row.toRowW) s) (Hook.obs hook11) (Hook.val hook11) 8000 := fun w => by kernel_rfl
theorem ok11 : (chainsOk q11 && opensWell PySem.Challenge.rw_uf060008_11.row.prog && (frees PySem.Challenge.rw_uf060008_11.row.toRowW && PySem.Challenge.rw_uf060008_11.row.within.isEmpty)) = true := by kernel_rfl
end Mine

set_option Elab.async false
set_option linter.unusedVariables false
namespace Mine
open PySem PySem.W PyProof.Rows

variable {C : Cx} {k : Nat} {env : Env} {ρ : Rho} {H : Hp} {Q R : V → Hp → Prop} {QB : Bool → Hp → Prop} {QS : Fl → Rho → Hp → Prop} {RS : V → Rho → Hp → Prop}

theorem ExecW.expr {e p} (h : EvalW C k env e (fun _ H' => QS .next ρ H') (fun v H' => RS v ρ H') ρ H) (hi : interactive env = false := by rfl) (hs : swapsWith e Option.none p.line env = pure false := by rfl) :
    ExecW C k env (.Expr e p) QS RS ρ H := fun A a s S =>
  wpAny_Expr_any (wpAny_mono (h A a s S) (fun x s' ⟨v, H', q, S', r, E⟩ => ⟨.next, ρ, H', q, trivial, S.ext S' E, E.toF⟩) fun _ _ p => p.toX S) hi hs

/- chains of two comparisons -/
theorem EvalW.compare2 {l o₁ o₂ r₁ r₂ p} (h : EvalW C k env l (fun v H₁ => EvalW C k env r₁ (fun w H₂ => CmpW C k o₁ v w (fun c H₃ => TruthW C k c (fun b H₄ => if b = true then EvalW C k env r₂ (fun z H₅ => CmpW C k o₂ w z Q R H₅) R ρ H₄ else Q c H₄) R H₃) R H₂) R ρ H₁) R ρ H)
    (hm : lastMarks [o₁, o₂] [r₁, r₂] = false := by with_unfolding_all rfl) : EvalW C k env (.Compare l [o₁, o₂] [r₁, r₂] p) Q R ρ H := fun A a s S => by
  refine Compare_chain (wp_go (h A a s S) fun x v H₁ s₁ h₁ S₁ r₁ E₁ => ?_) hm
  unfold compareChain
  refine wpAny_bind (wpAny_holding (wp_go (h₁ A a s₁ (S.ext S₁ E₁)) (fun y w H₂ s₂ h₂ S₂ r₂ E₂ => wpAny_bind (wpAny_standAt (wpAny_bind (wpAny_holding ?_)))) fun _ _ p => p.after E₁))
  refine wp_go (h₂ A a s₂ x y S₂ (r₁.ext E₂) r₂) (fun z c H₃ s₃ h₃ S₃ r₃ E₃ => ?_) fun _ _ p => p.after (E₁.trans E₂)
  refine wpAny_bind (fun Γ p hΓ => ?_)
  rw [Sem.wp_release]
  show wpAny C.M A _ _ _ s₃
  refine wpAny_bind (wpAny_holding (wp_go (h₃ A a s₃ z S₃ r₃) (fun b b' H₄ s₄ h₄ S₄ e₄ E₄ => ?_) fun _ _ p => p.after ((E₁.trans E₂).trans E₃)))
  have e' : b' = b := e₄
  subst e'
  have E' := ((E₁.trans E₂).trans E₃).trans E₄
  cases b'
  · simp only [Bool.false_eq_true, if_false] at h₄ ⊢
    exact wpAny_pure ⟨c, H₄, h₄, S₄, r₃.ext E₄, E'⟩
  · simp only [if_true] at h₄ ⊢
    show wpAny C.M A (compareChain _ y [o₂] [eval _ env]) _ _ s₄
    unfold compareChain
    refine wpAny_bind (wpAny_holding (wp_go (h₄ A a s₄ (S.ext S₄ E')) (fun t tv H₅ s₅ h₅ S₅ r₅ E₅ => wpAny_bind (wpAny_standAt fun Γ p hΓ => ?_)) fun _ _ p => p.after E'))
    rw [Sem.wp_operate]
    exact wp_fin (E'.trans E₅) (h₅ A a s₅ y t S₅ (r₂.ext (E₃.trans (E₄.trans E₅))) r₅) Γ p hΓ

theorem TestW.compare2 {l o₁ o₂ r₁ r₂ p} (h : EvalW C k env l (fun v H₁ => EvalW C k env r₁ (fun w H₂ => CmpW C k o₁ v w (fun c H₃ => TruthW C k c (fun b H₄ => if b = true then EvalW C k env r₂ (fun z H₅ => CmpW C k o₂ w z (fun c' H₆ => TruthW C k c' QB R H₆) R H₅) R ρ H₄ else QB false H₄) R H₃) R H₂) R ρ H₁) R ρ H)
    (hm : lastMarks [o₁, o₂] [r₁, r₂] = false := by with_unfolding_all rfl) : TestW C k env (.Compare l [o₁, o₂] [r₁, r₂] p) QB R ρ H := fun A a s S => by
  refine isTrue_chain (wp_go (h A a s S) fun x v H₁ s₁ h₁ S₁ r₁ E₁ => ?_) hm
  unfold testChain
  refine wpAny_bind (wpAny_holding (wp_go (h₁ A a s₁ (S.ext S₁ E₁)) (fun y w H₂ s₂ h₂ S₂ r₂ E₂ => wpAny_bind (wpAny_standAt (wpAny_bind (wpAny_holding ?_)))) fun _ _ p => p.after E₁))
  refine wp_go (h₂ A a s₂ x y S₂ (r₁.ext E₂) r₂) (fun z c H₃ s₃ h₃ S₃ r₃ E₃ => ?_) fun _ _ p => p.after (E₁.trans E₂)
  refine wpAny_bind (fun Γ p hΓ => ?_)
  rw [Sem.wp_release]
  show wpAny C.M A _ _ _ s₃
  refine wpAny_bind (wpAny_holding (wp_go (h₃ A a s₃ z S₃ r₃) (fun b b' H₄ s₄ h₄ S₄ e₄ E₄ => ?_) fun _ _ p => p.after ((E₁.trans E₂).trans E₃)))
  have e' : b' = b := e₄
  subst e'
  have E' := ((E₁.trans E₂).trans E₃).trans E₄
  cases b'
  · simp only [Bool.false_eq_true, if_false] at h₄ ⊢
    exact wpAny_pure ⟨false, H₄, h₄, S₄, rfl, E'⟩
  · simp only [if_true] at h₄ ⊢
    show wpAny C.M A (testChain _ y [o₂] [eval _ env]) _ _ s₄
    unfold testChain
    refine wpAny_bind (wpAny_holding (wp_go (h₄ A a s₄ (S.ext S₄ E')) (fun t tv H₅ s₅ h₅ S₅ r₅ E₅ => wpAny_bind (wpAny_standAt (wpAny_bind fun Γ p hΓ => ?_))) fun _ _ p => p.after E'))
    rw [Sem.wp_operate]
    refine (wp_go (h₅ A a s₅ y t S₅ (r₂.ext (E₃.trans (E₄.trans E₅))) r₅) (fun u c' H₆ s₆ h₆ S₆ r₆ E₆ => wpAny_holding (wp_fin ((E'.trans E₅).trans E₆) (h₆ A a s₆ u S₆ r₆))) fun _ _ p => p.after (E'.trans E₅) : wpAny C.M A _ _ _ s₅) Γ p hΓ

/- empty dicts -/
theorem newDict_W {A : Around} {s : Shared} {E : Value → Shared → Prop} {P : Value → Shared → Prop} (S : Sim C H s) (o : O) (ho : o = .dictI (fun _ => Option.none) 0 ∨ o = .dictS (fun _ => Option.none) 0)
    (h : ∀ a s', H a = Option.none → Sim C (H.set a o) s' → Ext H s.heap (H.set a o) s'.heap → P (.ref a) s') : wpAny C.M A newDict P E s := by
  have hk : ∀ b o, s.heap.get? b = some o → (s.heap.push { cls := .type "dict", data := .dict #[] }).get? b = some o := fun b o e => Heap.get?_push_of_some _ e
  refine wpAny_newObj_type ?_
  have r : ORel C (s.heap.push { cls := .type "dict", data := .dict #[] }) (H.set s.heap.objs.size o) s.heap.objs.size o := by
    rcases ho with rfl | rfl
    · exact ⟨[], Heap.DictOf.new _, Nat.le_refl _, fun _ => trivial⟩
    · exact ⟨[], Heap.DictOf.new _, Nat.le_refl _, fun _ => trivial⟩
  obtain ⟨S', E'⟩ := S.alloc (s' := { s with heap := s.heap.push { cls := .type "dict", data := .dict #[] } }) hk rfl rfl r
  exact h _ _ (S.fresh (Nat.le_refl _)) S' E'
theorem EvalW.dictI {p} (h : ∀ a, H a = Option.none → Q (.ref a) (H.set a (.dictI (fun _ => Option.none) 0))) : EvalW C k env (.Dict [] [] p) Q R ρ H := fun A a s S => by
  rw [eval_Dict_empty]
  exact wpAny_bind (wpAny_standAt (newDict_W S.sim _ (.inl rfl) fun b s' n S' E' => ⟨_, _, h b n, S', .ref b, E'⟩))
/- item stores -/
theorem valueAt_stored' {K : Type} [DecidableEq K] (kvs : List (K × Value)) (k x : K) (v : Value) : valueAt (stored kvs k v) x = if x = k then some v else valueAt kvs x := by
  unfold valueAt stored
  split
  · rename_i hany
    induction kvs with
    | nil => simp at hany
    | cons p r ih =>
      obtain ⟨a, b⟩ := p
      by_cases hak : a = k
      · subst hak
        by_cases hx : x = a
        · subst hx; simp
        · have : ¬ a = x := fun e => hx e.symm
          by_cases hr : (r.any fun kv => decide (kv.1 = a)) = true
          · have ih' := ih hr
            simp only [hx, if_false] at ih' ⊢
            simp only [List.map_cons, if_true, List.find?_cons, this, decide_false]
            exact ih'
          · have hmap : r.map (fun kv => if kv.1 = a then (kv.1, v) else kv) = r := by
              refine (List.map_congr_left fun y hy => ?_).trans (List.map_id r)
              have : ¬ y.1 = a := fun e => hr (List.any_eq_true.mpr ⟨y, hy, by simp [e]⟩)
              simp [this]
            simp only [hx, if_false, List.map_cons, if_true, List.find?_cons, this, decide_false, hmap]
      · have hr : (r.any fun kv => decide (kv.1 = k)) = true := by simpa [hak] using hany
        have ih' := ih hr
        simp only [List.map_cons, hak, if_false, List.find?_cons]
        by_cases hx : a = x
        · subst hx; simp [hak]
        · simp only [hx, decide_false]; exact ih'
  · rename_i hany
    rw [List.find?_append]
    by_cases hx : x = k
    · subst hx
      have : kvs.find? (fun kv => decide (kv.1 = x)) = Option.none := by
        rw [List.find?_eq_none]; intro y hy; simp; intro e; exact hany (List.any_eq_true.mpr ⟨y, hy, by simp [e]⟩)
      simp [this]
    · have : ¬ k = x := fun e => hx e.symm
      simp [hx, this]

noncomputable def SetW (C : Cx) (k : Nat) (v i u : V) (Q : Hp → Prop) (R : V → Hp → Prop) (H : Hp) : Prop :=
  ∀ A, Lv C k A → ∀ s x y z, Sim C H s → VRel s.heap H v x → VRel s.heap H i y → VRel s.heap H u z → wpAny C.M A (setItem x y z) (Post C H s.heap (fun _ _ (_ _ : Unit) => True) (fun _ H' => Q H')) (Post C H s.heap VRel R) s
theorem ExecW.assign_sub {o i p' e p} (h : EvalW C k env e (fun u H₁ => EvalW C k env o (fun v H₂ => EvalW C k env i (fun j H₃ => SetW C k v j u (fun H₄ => QS .next ρ H₄) (fun w H' => RS w ρ H') H₃) (fun w H' => RS w ρ H') ρ H₂) (fun w H' => RS w ρ H') ρ H₁) (fun w H' => RS w ρ H') ρ H)
    (hs : swapsWith e (some (.Subscript o i p')) p.line env = pure false := by rfl) : ExecW C k env (.Assign [.Subscript o i p'] e p) QS RS ρ H := fun A a s S => by
  refine wpAny_Assign_Subscript (wp_go (h A a s S) (fun z u H₁ s₁ h₁ S₁ r₁ E₁ => ?_) fun _ _ p => p.toX S) hs
  refine wp_go (h₁ A a s₁ (S.ext S₁ E₁)) (fun x v H₂ s₂ h₂ S₂ r₂ E₂ => ?_) fun _ _ p => (p.after E₁).toX S
  refine wp_go (h₂ A a s₂ (S.ext S₂ (E₁.trans E₂))) (fun y j H₃ s₃ h₃ S₃ r₃ E₃ => ?_) fun _ _ p => (p.after (E₁.trans E₂)).toX S
  refine wpAny_mono (h₃ A a s₃ x y z S₃ (r₂.ext E₃) r₃ (r₁.ext (E₂.trans E₃))) ?_ fun _ _ p => (p.after ((E₁.trans E₂).trans E₃)).toX S
  rintro _ s₄ ⟨_, H₄, q, S₄, _, E₄⟩
  have E := ((E₁.trans E₂).trans E₃).trans E₄
  exact ⟨.next, ρ, H₄, q, trivial, S.ext S₄ E, E.toF⟩
theorem SetW.dictI {a : Addr} {m : Int → Option V} {n : Nat} {i : Int} {u : V} {QH : Hp → Prop} (ha : H a = some (.dictI m n)) (hn : n ≤ 100000) (h : QH (H.set a (.dictI (fun x => if x = i then some u else m x) (n + 1)))) : SetW C k (.ref a) (.int i) u QH R H := fun A lv s x y z S r1 r2 r3 => by
  cases r1; cases r2
  obtain ⟨f, hm, hle, hr⟩ := S.objs _ _ ha
  refine wpAny_setItem_pairs (intKind_is _ _ _ _) hm (fun h' hm' hs => ?_) (Nat.le_trans hle (Nat.le_trans hn (by decide)))
  have hex : ∃ ob, h'.get? a = some ob := let ⟨o, _, _, e, _⟩ := hm'; ⟨o, e⟩
  have hne : ∀ b, H b = none → b ≠ a := fun b e q => by subst q; rw [ha] at e; cases e
  have E0 : ∀ o', ExtV H s.heap (H.set a o') h' := fun o' b ob _ _ e _ n => ⟨.of ((hs.2 b (hne b n)).trans e), by unfold Hp.set; rw [if_neg (hne b n)]; exact n⟩
  obtain ⟨S', E'⟩ := S.update (s' := { s with heap := h', toks := s.toks + 1 }) (o' := .dictI (fun x => if x = i then some u else m x) (n + 1)) ha hs hex rfl rfl
    ⟨_, hm', Nat.le_trans (stored_length_le _ _ _) (Nat.succ_le_succ hle), fun x => by
      rw [valueAt_stored']
      by_cases q : x = i
      · simp only [q, if_true]; exact r3.extV (E0 _)
      · simp only [q, if_false]; exact (hr x).extV (E0 _)⟩
  exact ⟨(), _, h, S', trivial, E'⟩
theorem SetW.list {a : Addr} {l : List V} {i : Int} {u : V} {QH : Hp → Prop} (ha : H a = some (.list l)) (h0 : 0 ≤ i) (hi : i < l.length) (hn : l.length ≤ 100000) (h : QH (H.set a (.list (l.set i.toNat u)))) : SetW C k (.ref a) (.int i) u QH R H := fun A lv s x y z S r1 r2 r3 => by
  cases r1; cases r2
  obtain ⟨xs, hl, rl⟩ := S.objs _ _ ha
  have hz : xs.size = l.length := by have := rl.length; simpa using this
  obtain ⟨n, ho⟩ := hl
  refine ki_setAt (items := xs) (n := n) ho h0 (by omega) (by omega) ?_
  have e1 : Obj.mapSeq (·.setIfInBounds i.toNat z) { cls := .type "list", data := .seq xs n } = { cls := .type "list", data := .seq (xs.setIfInBounds i.toNat z) n } := by simp [Obj.mapSeq]
  have hs := Heap.SameBut.update s.heap a (Obj.mapSeq (·.setIfInBounds i.toNat z))
  have hl' : (s.heap.update a (Obj.mapSeq (·.setIfInBounds i.toNat z))).PlainList a (xs.setIfInBounds i.toNat z) := ⟨n, by rw [Heap.get?_update_self _ ho (by rw [e1]; rfl), e1]⟩
  generalize s.heap.update a (Obj.mapSeq (·.setIfInBounds i.toNat z)) = h' at hs hl'
  have hex : ∃ ob, h'.get? a = some ob := let ⟨_, e⟩ := hl'; ⟨_, e⟩
  have hne : ∀ b, H b = none → b ≠ a := fun b e q => by subst q; rw [ha] at e; cases e
  have E0 : ExtV H s.heap (H.set a (.list (l.set i.toNat u))) h' := fun b ob _ _ e _ n => ⟨.of ((hs.2 b (hne b n)).trans e), by unfold Hp.set; rw [if_neg (hne b n)]; exact n⟩
  obtain ⟨S', E'⟩ := S.update (s' := { s with heap := h' }) (o' := .list (l.set i.toNat u)) ha hs hex rfl rfl ⟨_, hl', by simpa using (rl.extV E0).set (r3.extV E0)⟩
  exact ⟨(), _, h, S', trivial, E'⟩

end Mine

set_option Elab.async false
set_option linter.unusedVariables false
namespace Mine
open PySem PySem.W PyProof.Rows

variable {C : Cx} {k : Nat} {env : Env} {ρ : Rho} {H : Hp} {Q R : V → Hp → Prop} {QB : Bool → Hp → Prop} {QS : Fl → Rho → Hp → Prop} {RS : V → Rho → Hp → Prop}

theorem VRelL.bools {h : Heap} : ∀ {bs : List Bool} {xs : List Value}, VRelL h H (bs.map V.bool) xs → xs = bs.map Value.bool
  | [], _, .nil => rfl
  | b :: bs, _, .cons r rl => by cases r; rw [rl.bools]; rfl
theorem truthOf_bools {A : Around} {prog : Program} {w : World} {xs : Array Value} {bs : List Bool} (e : xs.toList = bs.map Value.bool) : TruthOf prog w A (fun i v => xs[i]? = some v) (fun i => bs.getD i false) := by
  intro i v s Q E hv hq
  have : xs.toList[i]? = some v := by simpa using hv
  rw [e, List.getElem?_map] at this
  obtain ⟨b, hb, rfl⟩ := Option.map_eq_some_iff.mp this
  refine wpAny_truthy_bool ?_
  simpa [List.getD, hb] using hq
theorem range_all (bs : List Bool) : (List.range bs.length).all (fun i => bs.getD i false) = bs.all id := by
  rw [Bool.eq_iff_iff]
  simp only [List.all_eq_true, List.mem_range]
  constructor
  · intro h b hb
    obtain ⟨i, hi, rfl⟩ := List.mem_iff_getElem.mp hb
    simpa [List.getD, hi] using h i hi
  · intro h i hi
    simpa [List.getD, hi] using h bs[i] (List.getElem_mem hi)
theorem range_any (bs : List Bool) : (List.range bs.length).any (fun i => bs.getD i false) = bs.any id := by
  rw [Bool.eq_iff_iff]
  simp only [List.any_eq_true, List.mem_range]
  constructor
  · rintro ⟨i, hi, h⟩
    exact ⟨bs[i], List.getElem_mem hi, by simpa [List.getD, hi] using h⟩
  · rintro ⟨b, hb, h⟩
    obtain ⟨i, hi, rfl⟩ := List.mem_iff_getElem.mp hb
    exact ⟨i, hi, by simpa [List.getD, hi] using h⟩

theorem iter_list_W {A : Around} {s : Shared} {a : Addr} {xs : Array Value} (S : Sim C H s) (hl : s.heap.IsList a xs) {P : Value → Shared → Prop} {E : Value → Shared → Prop} (hh : A.handled = none)
    (h : ∀ I s', Walks C.prog C.w A I [I, a] [I] xs.size (fun i v => xs[i]? = some v) (fun i h => h.IsListIter I a i ∧ h.IsList a xs) → (s'.heap.IsListIter I a 0 ∧ s'.heap.IsList a xs) → s.heap.objs.size ≤ I →
      (∀ b o, s.heap.get? b = some o → s'.heap.get? b = some o) → s'.gens = s.gens → s'.os = s.os → P (.ref I) s') : wpAny C.M A (pyIter (.ref a)) P E s := by
  refine wpAny_pyIter_list hl (h _ _ (Walks.list hh _ a ?_ xs) ⟨⟨_, Heap.get?_push_size _ rfl, rfl, rfl⟩, hl.push _⟩ (Nat.le_refl _) (fun b o e => Heap.get?_push_of_some _ e) rfl rfl)
  obtain ⟨o, e, _⟩ := hl
  exact Nat.ne_of_lt (Heap.lt_size e)

theorem CallW.all {v : V} {bs : List Bool} (hd : C.hd = true) (hl : lview H v = some (bs.map .bool)) (h : Q (.bool (bs.all id)) H) : CallW C k (.builtin "all") [v] Q R H := fun A a s xs S r => by
  cases r with
  | cons r r' =>
    cases r'
    obtain ⟨ad, ys, rfl, hL, rl⟩ := lview_list hl S r
    have e := rl.bools
    have hz : ys.size = bs.length := by have := rl.length; simpa using this
    refine call_all_walk (iter_list_W S hL (a.handled hd) fun I s' W st hI hk hg ho => ⟨I, _, _, _, _, _, _, rfl, W, st, truthOf_bools e, fun h' tk hk' => ?_⟩)
    rw [hz, range_all]
    have hk2 : ∀ b o, s.heap.get? b = some o → h'.get? b = some o := fun b o q => hk' b o (fun m => by simp at m; subst m; exact absurd (Heap.lt_size q) (Nat.not_lt.mpr hI)) (hk b o q)
    exact ⟨_, H, h, S.grown (s' := { s' with heap := h', toks := tk }) hk2 hg ho, .bool _, Ext.grown hk2⟩
theorem CallW.any {v : V} {bs : List Bool} (hd : C.hd = true) (hl : lview H v = some (bs.map .bool)) (h : Q (.bool (bs.any id)) H) : CallW C k (.builtin "any") [v] Q R H := fun A a s xs S r => by
  cases r with
  | cons r r' =>
    cases r'
    obtain ⟨ad, ys, rfl, hL, rl⟩ := lview_list hl S r
    have e := rl.bools
    have hz : ys.size = bs.length := by have := rl.length; simpa using this
    refine call_any_walk (iter_list_W S hL (a.handled hd) fun I s' W st hI hk hg ho => ⟨I, _, _, _, _, _, _, rfl, W, st, truthOf_bools e, fun h' tk hk' => ?_⟩)
    rw [hz, range_any]
    have hk2 : ∀ b o, s.heap.get? b = some o → h'.get? b = some o := fun b o q => hk' b o (fun m => by simp at m; subst m; exact absurd (Heap.lt_size q) (Nat.not_lt.mpr hI)) (hk b o q)
    exact ⟨_, H, h, S.grown (s' := { s' with heap := h', toks := tk }) hk2 hg ho, .bool _, Ext.grown hk2⟩

theorem newAt_W {s s' : Shared} {l : List V} {xs : Array Value} (S : Sim C H s) (hk : ∀ b o, s.heap.get? b = some o → s'.heap.get? b = some o) (hl : s'.heap.PlainList s.heap.objs.size xs) (r : VRelL s.heap H l xs.toList) (hg : s'.gens = s.gens) (ho : s'.os = s.os)
    (h : ∀ a, H a = Option.none → Q (.ref a) (H.set a (.list l))) : Post C H s.heap VRel Q (.ref s.heap.objs.size) s' := by
  have E0 : Ext H s.heap (H.set s.heap.objs.size (.list l)) s'.heap :=
    ⟨fun a ob e _ => .of (hk a ob e), fun a ob e n => by unfold Hp.set; rw [if_neg (Nat.ne_of_lt (Heap.lt_size e))]; exact n, fun a ob e => ⟨ob, hk a ob e⟩⟩
  obtain ⟨S', E'⟩ := S.alloc hk hg ho (o := .list l) ⟨xs, hl, r.ext E0⟩
  exact ⟨_, _, h _ (S.fresh (Nat.le_refl _)), S', .ref _, E'⟩

theorem CallW.listCopy {v : V} {l : List V} (hl : lview H v = some l) (hn : l.length ≤ 100000) (h : ∀ a, H a = Option.none → Q (.ref a) (H.set a (.list l))) : CallW C k (.type "list") [v] Q R H := fun A a s xs S r => by
  cases r with
  | cons r r' =>
    cases r'
    obtain ⟨ad, ys, rfl, ⟨o, e, c, n, d⟩, rl⟩ := lview_list hl S r
    have hz : ys.size = l.length := by have := rl.length; simpa using this
    refine call_list_seq (hsz := by rw [hz]; exact Nat.le_trans hn (by decide)) ad (.inl rfl) e c d fun h' c' hk hD => ?_
    exact newAt_W S hk ⟨_, hD⟩ rl rfl rfl h
theorem BinW.addL {v w : V} {l l' : List V} (hv : lview H v = some l) (hw : lview H w = some l') (hn : l.length + l'.length ≤ 100000) (h : ∀ a, H a = Option.none → Q (.ref a) (H.set a (.list (l ++ l')))) : BinW C k .Add v w Q R H := fun A a s x y S r1 r2 => by
  obtain ⟨a1, xs, rfl, hL, rl⟩ := lview_list hv S r1
  obtain ⟨a2, ys, rfl, hL', rl'⟩ := lview_list hw S r2
  have hz : xs.size = l.length := by have := rl.length; simpa using this
  have hz' : ys.size = l'.length := by have := rl'.length; simpa using this
  obtain ⟨⟨cls, dd, data, sl⟩, ho, hc, n, hd⟩ := id hL
  obtain ⟨⟨cls2, dd2, data2, sl2⟩, ho2, hc2, n2, hd2⟩ := id hL'
  simp only at hc hd hc2 hd2
  subst hc hd hc2 hd2
  refine concat_meets ⟨_, ho, rfl⟩ ⟨_, ho2, rfl⟩ noFill_list_add seq_list_add PySem.F.slot_list_add PySem.F.entry_list_add (PySem.F.args_list_add_2 _ _) (list_addW a1 a2 xs ys n n2 dd dd2 sl sl2 (by rw [hz, hz']; exact Nat.le_trans hn (by decide))) ⟨ho, ho2, ?_⟩
  exact newAt_W S (fun b o e => Heap.get?_push_of_some _ e) ⟨_, Heap.get?_push_size _ rfl⟩ (by simpa using rl.append rl') rfl rfl h

end Mine

set_option Elab.async false
set_option linter.unusedVariables false
namespace Mine
open PySem PySem.W PyProof.Rows

variable {C : Cx} {k : Nat} {env : Env} {ρ : Rho} {H : Hp} {Q R : V → Hp → Prop} {QB : Bool → Hp → Prop} {QS : Fl → Rho → Hp → Prop} {RS : V → Rho → Hp → Prop}

theorem foldl_rep (x : Value) : ∀ (n : Nat) (acc : Array Value), (List.foldl (fun x1 x2 => x1 ++ x2) acc (List.replicate n #[x])).toList = acc.toList ++ List.replicate n x
  | 0, acc => by simp
  | n + 1, acc => by rw [List.replicate_succ, List.foldl_cons, foldl_rep x n, List.replicate_succ]; simp
theorem VRelL.rep {h : Heap} {v : V} {x : Value} (r : VRel h H v x) : ∀ n : Nat, VRelL h H (List.replicate n v) (List.replicate n x)
  | 0 => .nil
  | n + 1 => .cons r (rep r n)

theorem EvalW.listMul {e p1 n p2} (h : EvalW C k env e (fun v H₁ => EvalW C k env n (fun w H₂ => ∃ i : Int, w = .int i ∧ i ≤ 100000 ∧ -100000 ≤ i ∧ ∀ a, H₂ a = Option.none → Q (.ref a) (H₂.set a (.list (List.replicate i.toNat v)))) R ρ H₁) R ρ H)
    (he : starEach [e] env = [(false, eval e env)] := by rfl) : EvalW C k env (.BinOp (.List [e] p1) .Mult n p2) Q R ρ H := fun A a s S => by
  refine wpAny_BinOp (List_ ?_)
  rw [he]
  refine Calls.spliced_cons (wp_go (h A a s S) fun x v H₁ s₁ h₁ S₁ r₁ E₁ => Calls.spliced_nil ?_)
  have hk : ∀ b o, s₁.heap.get? b = some o → (s₁.heap.push { cls := .type "list", data := .seq [x].toArray }).get? b = some o := fun b o e => Heap.get?_push_of_some _ e
  refine wpAny_newObj_type ?_ (by show [x].toArray.size ≤ sizeLine; simp; decide)
  have S₂ : Sim C H₁ { s₁ with heap := s₁.heap.push { cls := .type "list", data := .seq [x].toArray } } := S₁.grown (s' := { s₁ with heap := s₁.heap.push { cls := .type "list", data := .seq [x].toArray } }) hk rfl rfl
  have E₂ : Ext H₁ s₁.heap H₁ (s₁.heap.push { cls := .type "list", data := .seq [x].toArray }) := Ext.grown hk
  refine wp_go (h₁ A a _ (S.ext S₂ (E₁.trans E₂))) (fun y w H₃ s₃ h₃ S₃ r₃ E₃ => ?_) fun _ _ p => p.after (E₁.trans E₂)
  obtain ⟨i, rfl, hi1, hi2, hQ⟩ := h₃
  cases r₃ with
  | int _ u =>
    have hl : s₃.heap.get? s₁.heap.objs.size = some { cls := .type "list", dict := Option.none, data := .seq [x].toArray 0, slots := #[] } := (E₃.keep _ _ (Heap.get?_push_size _ rfl) (S₁.fresh (Nat.le_refl _))).exact (fun _ _ q => by cases q)
    have rx := r₁.ext (E₂.trans E₃)
    have E' := (E₁.trans E₂).trans E₃
    refine wpAny_binaryOp_repeat_ref (T := "list") (U := "int") (by decide) ⟨_, hl, rfl⟩ (fun s' => typeIs_int s' i u) noFill_list_mul F.fills_int_mul F.slot_int_rmul repeat_list F.slot_int_index.lookup
      (call_meets F.slot_int_rmul (typeIs_int s₃ i u) F.entry_int_rmul (F.args_int_rmul_2 _ _) (int___rmul___int_list i u s₁.heap.objs.size _ 0)
      ⟨hl, rfl, ⟨_, hl, rfl⟩, call_meets F.slot_list_mul ⟨_, hl, rfl⟩ F.entry_list_mul (F.args_list_mul_2 _ _)
        (AutoListH.list___mul___list_int_3 s₁.heap.objs.size _ 0 i u (by simp [Builtin.List.listFitsIndex]; omega) (by simp; omega) (by simp [Builtin.List.listTooLong, sizeLine]; omega))
        ⟨hl, ?_⟩⟩)
    have := newAt_W (Q := Q) (l := List.replicate i.toNat v) (s' := { s₃ with heap := s₃.heap.push { cls := .type "list", data := .seq (List.foldl (fun x1 x2 => x1 ++ x2) #[] (List.replicate (if ([x].toArray : Array Value).isEmpty = true then 0 else i.toNat) [x].toArray)) } })
      S₃ (fun b o e => Heap.get?_push_of_some _ e) ⟨_, Heap.get?_push_size _ rfl⟩ (by
        have e0 : (if ([x].toArray : Array Value).isEmpty = true then 0 else i.toNat) = i.toNat := by simp
        rw [e0]
        have := foldl_rep x i.toNat #[]
        simp only [List.nil_append, Array.toList_empty] at this
        show VRelL _ _ _ (List.foldl (fun x1 x2 => x1 ++ x2) #[] (List.replicate i.toNat #[x])).toList
        rw [this]; exact VRelL.rep rx _) rfl rfl hQ
    exact this.after E'

end Mine

set_option Elab.async false
set_option linter.unusedVariables false
namespace Mine
open PySem PySem.W PyProof.Rows

variable {C : Cx} {k : Nat} {env : Env} {ρ : Rho} {H : Hp} {Q R : V → Hp → Prop} {QB : Bool → Hp → Prop} {QS : Fl → Rho → Hp → Prop} {RS : V → Rho → Hp → Prop}

theorem MethIs.list {a : Addr} {l : List V} {name : Str} {id : String} (ha : H a = some (.list l)) (slot : Slot "list" name id) (hty : typeOf (.builtin id) = pure (.type "method_descriptor")) : MethIs C H (.ref a) name (.builtin id) := by
  intro A s x pl Q E S r hq
  cases r
  obtain ⟨xs, ⟨n, ho⟩, rl⟩ := S.objs _ _ ha
  exact getMethod_builtin ⟨_, ho, rfl⟩ PySem.F.plainAttrs_list slot hty (fun a e => by cases e; exact ⟨_, ho, rfl⟩) hq
theorem MethIs.append {a : Addr} {l : List V} (ha : H a = some (.list l)) : MethIs C H (.ref a) "append" (.builtin "list.append") := MethIs.list ha slot_list_append type_list_append

theorem CallW.append {a : Addr} {l : List V} {v : V} (ha : H a = some (.list l)) (hn : l.length ≤ 1000) (h : Q .none (H.set a (.list (l ++ [v])))) : CallW C k (.builtin "list.append") [.ref a, v] Q R H := fun A lv s xs S r => by
  cases r with
  | cons r1 r' => cases r' with
    | cons r2 r' => cases r'; cases r1; exact append_W S ha hn r2 fun s' S' E' => ⟨.none, _, h, S', .none, E'⟩

theorem lview_ref {a : Addr} {l : List V} (ha : H a = some (.list l)) : lview H (.ref a) = some l := by simp [lview, ha]
theorem lview_le {H H' : Hp} (hle : Hp.le H H') {v : V} {l : List V} (h : lview H v = some l) : lview H' v = some l := by
  cases v with
  | ref a =>
    simp only [lview] at h ⊢
    split at h
    · rename_i l' e; cases h; rw [hle _ _ e]
    · cases h
  | _ => exact h
theorem Hp.le_set {H : Hp} {a : Addr} {o : O} (ha : H a = Option.none) : Hp.le H (H.set a o) := fun b ob e => by
  unfold Hp.set; split
  · rename_i q; subst q; rw [ha] at e; cases e
  · exact e
theorem Hp.set_self (H : Hp) (a : Addr) (o : O) : (H.set a o) a = some o := by simp [Hp.set]
theorem Hp.set_ne {H : Hp} {a b : Addr} {o : O} (h : b ≠ a) : (H.set a o) b = H b := by simp [Hp.set, h]
theorem Hp.set_set (H : Hp) (a : Addr) (o o' : O) : (H.set a o).set a o' = H.set a o' := by
  funext b; simp only [Hp.set]; split <;> rfl
theorem lcond_le {H H' : Hp} {v : V} {l : List V} (h : lview H v = some l) (hle : Hp.le H H') : lcond v l H' := lview_le hle h

noncomputable def Rho.of : List (Str × V) → Rho
  | [] => fun _ => Option.none
  | (x, v) :: l => (Rho.of l).set x v
noncomputable def Rho.sat : List (Str × V) → Rho → Prop
  | [], _ => True
  | (x, v) :: l, ρ => ρ x = some v ∧ Rho.sat l ρ
theorem Rho.sat.le : ∀ {l : List (Str × V)} {ρ : Rho}, Rho.sat l ρ → Rho.le (Rho.of l) ρ
  | [], ρ, _ => fun y w e => by cases e
  | (x, v) :: l, ρ, h => fun y w e => by
    simp only [Rho.of, Rho.set] at e
    split at e
    · rename_i q; subst q; cases e; exact h.1
    · exact Rho.sat.le h.2 y w e
theorem Rho.le_refl (ρ : Rho) : Rho.le ρ ρ := fun _ _ e => e

theorem ExecW.weaken {st ρ'} (hle : Rho.le ρ ρ') (h : ExecW C k env st QS RS ρ H) : ExecW C k env st QS RS ρ' H := fun A a s S => h A a s (S.weaken hle)
theorem ExecsW.conseq {sts} {Q' : Fl → Rho → Hp → Prop} (h : ExecsW C k env sts Q' RS ρ H) (hq : ∀ fl ρ₁ H₁, Q' fl ρ₁ H₁ → ∃ ρ₂, Rho.le ρ₂ ρ₁ ∧ QS fl ρ₂ H₁) : ExecsW C k env sts QS RS ρ H := fun A a s S =>
  wpAny_mono (h A a s S) (fun x s' ⟨fl, ρ₁, H₁, q, r, S', E⟩ => let ⟨ρ₂, hle, q'⟩ := hq fl ρ₁ H₁ q; ⟨fl, ρ₂, H₁, q', r, S'.weaken hle, E⟩) fun _ _ p => p
theorem AssignW.conseq {t v} {P P' : Rho → Prop} (h : AssignW C k env t v P ρ H) (hp : ∀ ρ, P ρ → P' ρ) : AssignW C k env t v P' ρ H := fun A a s x S r P₀ E hP => h A a s x S r P₀ E fun ρ' s' q => hP ρ' s' (hp _ q)

noncomputable def LoopQ (Inv : List (Str × V) → Hp → Prop) (QS : Fl → Rho → Hp → Prop) : Fl → Rho → Hp → Prop
  | .next, ρ, H => ∃ l, Inv l H ∧ Rho.sat l ρ
  | .cont, ρ, H => ∃ l, Inv l H ∧ Rho.sat l ρ
  | .brk, ρ, H => QS .next ρ H
  | .ret u, ρ, H => QS (.ret u) ρ H

theorem ExecW.for_in {target iter body pos} (tup : Bool) (hd : C.hd = true) (ht : IsTupleE tup target)
    (h : IterE C k env tup iter (fun items cond H₁ => ∃ Inv : List V → List (Str × V) → Hp → Prop, (∃ l, Inv items l H₁ ∧ Rho.sat l ρ) ∧ (∀ r l H, Inv r l H → cond H) ∧
      (∀ v r l H, Inv (v :: r) l H → AssignW C k env target v (fun ρ' => ExecsW C k env body (LoopQ (Inv r) QS) (fun _ _ _ => False) ρ' H) (Rho.of l) H) ∧
      (∀ l H, Inv [] l H → QS .next (Rho.of l) H)) (fun v H' => RS v ρ H') ρ H)
    (hs : ∀ x, foldedSetIterable iter env x = pure x := by intro _; rfl) : ExecW C k env (.For target iter body [] pos) QS RS ρ H := fun A a s S => by
  refine wpAny_For ?_ hs
  refine h A a s S _ _ (fun _ _ p => p.toX S) ?_
  rintro I wr St items cond H₂ s₂ ⟨Inv, ⟨l, hi, hl⟩, hc, step, fin⟩ IT hcd st hn S₂ E₂
  refine for_core IT ht hd a (ρ := Rho.of l) (fun r ρ H => ∃ l, ρ = Rho.of l ∧ Inv r l H) (fun r ρ H ⟨l, _, h⟩ => hc r l H h) ?_ ?_ hn (fun f s' p => p) items s₂ ((S.ext S₂ E₂).weaken hl.le) E₂.toF st ⟨l, rfl, hi⟩
  · rintro v r ρ H ⟨l, rfl, hi⟩
    refine (step v r l H hi).conseq fun ρ' hb => hb.conseq fun fl ρ₁ H₁ q => ?_
    cases fl with
    | next => obtain ⟨l', i', s'⟩ := q; exact ⟨_, s'.le, l', rfl, i'⟩
    | cont => obtain ⟨l', i', s'⟩ := q; exact ⟨_, s'.le, l', rfl, i'⟩
    | brk => exact ⟨_, Rho.le_refl _, q⟩
    | ret u => exact ⟨_, Rho.le_refl _, q⟩
  · rintro ρ H ⟨l, rfl, hi⟩; exact fin l H hi

theorem ExecW.while_in {test body pos} (Inv : Nat → List (Str × V) → Hp → Prop) (n : Nat) (h0 : ∃ l, Inv n l H ∧ Rho.sat l ρ)
    (step : ∀ n l H, Inv n l H → TestW C k env test (fun b H' => if b = true then ExecsW C k env body (LoopQ (fun l H => ∃ m, m < n ∧ Inv m l H) QS) (fun _ _ _ => False) (Rho.of l) H' else QS .next (Rho.of l) H') (fun _ _ => False) (Rho.of l) H) :
    ExecW C k env (.While test body [] pos) QS RS ρ H := by
  obtain ⟨l, hi, hl⟩ := h0
  refine ExecW.weaken hl.le (ExecW.while_ (fun n ρ H => ∃ l, ρ = Rho.of l ∧ Inv n l H) n ⟨l, rfl, hi⟩ ?_)
  rintro n ρ H ⟨l, rfl, hi⟩ A a s S
  refine wpAny_mono (step n l H hi A a s S) (fun b s' ⟨b', H', q, r⟩ => ⟨b', H', ?_, r⟩) fun _ _ p => p
  cases b'
  · exact q
  · refine ExecsW.conseq q fun fl ρ₁ H₁ q => ?_
    cases fl with
    | next => obtain ⟨l', ⟨m, hm, i'⟩, s'⟩ := q; exact ⟨_, s'.le, m, hm, l', rfl, i'⟩
    | cont => obtain ⟨l', ⟨m, hm, i'⟩, s'⟩ := q; exact ⟨_, s'.le, m, hm, l', rfl, i'⟩
    | brk => exact ⟨_, Rho.le_refl _, q⟩
    | ret u => exact ⟨_, Rho.le_refl _, q⟩

noncomputable def PureStep (C : Cx) (k : Nat) (env : Env) (x : Str) (elt : Expr) (ifs : List Expr) (scope : Scope) (ρ : Rho) (g : V → Option V) (H : Hp) (v : V) : Prop :=
  ∀ L, IfsW C k (cenvOf env scope L) ifs (fun b H₂ => H₂ = H ∧ if b = true then EvalW C k (cenvOf env scope L) elt (fun u H₃ => H₃ = H ∧ g v = some u) (fun _ _ => False) ((Rho.hide scope ρ).set x v) H else g v = Option.none) (fun _ _ => False) ((Rho.hide scope ρ).set x v) H

noncomputable def compVar (env : Env) (scope : Scope) (x : Str) : Bool := scope.names.lookup x == some .local && ((cenvOf env scope 0).scope.names.lookup x == some .local)
theorem compVar.hide {scope : Scope} {x : Str} (h : compVar env scope x = true) : scope.names.lookup x = some .local := by
  simp only [compVar, Bool.and_eq_true] at h; exact eq_of_beq h.1
theorem compVar.kind {scope : Scope} {x : Str} (h : compVar env scope x = true) (L : Addr) : (cenvOf env scope L).kindOf x = some .local := by
  simp only [compVar, Bool.and_eq_true] at h; exact eq_of_beq h.2
theorem Rho.le_hide {scope : Scope} {x : Str} {v : V} (hx : scope.names.lookup x = some .local) : Rho.le (Rho.hide scope ρ) ((Rho.hide scope ρ).set x v) := fun y w e => by
  unfold Rho.set
  split
  · rename_i q; subst q; unfold Rho.hide at e; rw [if_pos hx] at e; cases e
  · exact e

theorem EvalW.conseq {e} {Q' R' : V → Hp → Prop} (h : EvalW C k env e Q' R' ρ H) (hq : ∀ v H, Q' v H → Q v H) (hr : ∀ v H, R' v H → R v H) : EvalW C k env e Q R ρ H := fun A a s S =>
  wpAny_mono (h A a s S) (fun x s' ⟨v, H', q, r⟩ => ⟨v, H', hq _ _ q, r⟩) fun x s' ⟨v, H', q, r⟩ => ⟨v, H', hr _ _ q, r⟩
theorem IfsW.conseq {e} {Q' : Bool → Hp → Prop} {R' : V → Hp → Prop} (h : IfsW C k env e Q' R' ρ H) (hq : ∀ v H, Q' v H → QB v H) (hr : ∀ v H, R' v H → R v H) : IfsW C k env e QB R ρ H := fun A a s S =>
  wpAny_mono (h A a s S) (fun x s' ⟨v, H', q, r⟩ => ⟨v, H', hq _ _ q, r⟩) fun x s' ⟨v, H', q, r⟩ => ⟨v, H', hr _ _ q, r⟩

theorem pure_inv {x p elt ifs scope} {H₁ : Hp} {items : List V} (g : V → Option V) (hx : compVar env scope x = true) (hlen : items.length ≤ 1000)
    (hst : ∀ v ∈ items, ∀ H', Hp.le H₁ H' → PureStep C k env x elt ifs scope ρ g H' v) :
    CompInv C k env elt (.Name x p) ifs scope ρ (fun D r acc H => ∃ done, items = done ++ r ∧ acc = done.filterMap g ∧ H₁ D = none ∧ H = H₁.set D (.list acc)) := by
  constructor
  · rintro D r acc H ⟨done, e1, e2, e3, e4⟩
    refine ⟨by rw [e4, Hp.set_self], ?_⟩
    have : (done.filterMap g).length ≤ done.length := List.length_filterMap_le ..
    have h2 : items.length = done.length + r.length := by rw [e1]; simp
    rw [e2]; omega
  · rintro L D v r acc H ⟨done, e1, e2, e3, rfl⟩
    refine AssignL.name (compVar.kind hx L) ⟨Rho.le_hide (compVar.hide hx), ?_⟩
    refine (hst v (by rw [e1]; simp) (H₁.set D (.list acc)) (Hp.le_set e3) L).conseq ?_ (fun _ _ h => h)
    rintro b H₂ ⟨rfl, hb⟩
    cases b
    · simp only [Bool.false_eq_true, if_false] at hb ⊢
      exact ⟨done ++ [v], by rw [e1]; simp, by rw [e2]; simp [hb], e3, by trivial⟩
    · simp only [if_true] at hb ⊢
      refine hb.conseq ?_ (fun _ _ h => h)
      rintro u H₃ ⟨rfl, hg⟩
      refine ⟨Hp.set_self .., done ++ [v], by rw [e1]; simp, by rw [e2]; simp [hg], e3, ?_⟩
      rw [Hp.set_set]

theorem fz_new {D : Addr} {acc : List V} (hD : H D = none) : Fz (H.set D (.list acc)) (.ref D) (.lst acc) H := by
  refine Fz.of (D := fun a => a = D) (.thaw rfl (Hp.set_self ..) (FzRL_refl acc)) (Hp.le_set hD) ?_
  rintro a rfl; exact hD
where FzRL_refl {H : Hp} {D : Addr → Prop} : ∀ l : List V, FzRL H D l l
  | [] => .nil
  | v :: l => .cons (.refl v) (FzRL_refl l)

theorem EvalW.compP {x p elt iter ifs scope pos} (g : V → Option V) (cs : compOk env scope = true) (hd : C.hd = true) (hx : compVar env scope x = true)
    (h : IterE C k env false iter (fun items cond H₁ => items.length ≤ 1000 ∧ (∀ H', Hp.le H₁ H' → cond H') ∧ (∀ v ∈ items, ∀ H', Hp.le H₁ H' → PureStep C k env x elt ifs scope ρ g H' v) ∧ Q (.lst (items.filterMap g)) H₁) R ρ H)
    (hs : ∀ x, foldedSetIterable iter env x = pure x := by intro _; rfl) :
    EvalW C k env (.ListComp elt [⟨.Name x p, iter, ifs, 0⟩] scope pos) Q R ρ H := by
  refine EvalW.comp false cs hd (fun e => by cases e) ?_ hs
  intro A a s S P PE hPE hP
  refine h A a s S P PE hPE ?_
  rintro I wr St items cond H₂ s₂ ⟨h1, h2, h3, h4⟩
  refine hP I wr St items cond H₂ s₂ ⟨_, pure_inv g hx h1 h3, fun D hD => ⟨[], rfl, rfl, hD, rfl⟩, ?_, ?_⟩
  · rintro D r acc H ⟨done, _, _, e3, rfl⟩; exact h2 _ (Hp.le_set e3)
  · rintro D acc H' ⟨done, e1, e2, e3, rfl⟩
    refine ⟨_, _, fz_new e3, ?_⟩
    rw [List.append_nil] at e1
    rw [e2, ← e1]; exact h4
theorem EvalW.compO {x p elt iter ifs scope pos} (g : V → Option V) (cs : compOk env scope = true) (hd : C.hd = true) (hx : compVar env scope x = true)
    (h : IterE C k env false iter (fun items cond H₁ => items.length ≤ 1000 ∧ (∀ H', Hp.le H₁ H' → cond H') ∧ (∀ v ∈ items, ∀ H', Hp.le H₁ H' → PureStep C k env x elt ifs scope ρ g H' v) ∧ ∀ D, H₁ D = Option.none → Q (.ref D) (H₁.set D (.list (items.filterMap g)))) R ρ H)
    (hs : ∀ x, foldedSetIterable iter env x = pure x := by intro _; rfl) :
    EvalW C k env (.ListComp elt [⟨.Name x p, iter, ifs, 0⟩] scope pos) Q R ρ H := by
  refine EvalW.comp false cs hd (fun e => by cases e) ?_ hs
  intro A a s S P PE hPE hP
  refine h A a s S P PE hPE ?_
  rintro I wr St items cond H₂ s₂ ⟨h1, h2, h3, h4⟩
  refine hP I wr St items cond H₂ s₂ ⟨_, pure_inv g hx h1 h3, fun D hD => ⟨[], rfl, rfl, hD, rfl⟩, ?_, ?_⟩
  · rintro D r acc H ⟨done, _, _, e3, rfl⟩; exact h2 _ (Hp.le_set e3)
  · rintro D acc H' ⟨done, e1, e2, e3, rfl⟩
    refine ⟨_, _, Fz.refl, ?_⟩
    rw [List.append_nil] at e1
    rw [e2, ← e1]; exact h4 D e3
theorem ExecW.assign_compP {y p' x p elt iter ifs scope cpos pos} (g : V → Option V) (hk : env.kindOf y = some .local) (cs : compOk env scope = true) (hd : C.hd = true) (hx : compVar env scope x = true)
    (h : IterE C k env false iter (fun items cond H₁ => items.length ≤ 1000 ∧ (∀ H', Hp.le H₁ H' → cond H') ∧ (∀ v ∈ items, ∀ H', Hp.le H₁ H' → PureStep C k env x elt ifs scope ρ g H' v) ∧ QS .next (ρ.set y (.lst (items.filterMap g))) H₁) (fun v H' => RS v ρ H') ρ H)
    (hsw : swapsWith (.ListComp elt [⟨.Name x p, iter, ifs, 0⟩] scope cpos) (some (.Name y p')) pos.line env = pure true := by rfl)
    (hs : ∀ x, foldedSetIterable iter env x = pure x := by intro _; rfl) :
    ExecW C k env (.Assign [.Name y p'] (.ListComp elt [⟨.Name x p, iter, ifs, 0⟩] scope cpos) pos) QS RS ρ H := by
  refine ExecW.assign_comp false hk cs hd (fun e => by cases e) ?_ hsw hs
  intro A a s S P PE hPE hP
  refine h A a s S P PE hPE ?_
  rintro I wr St items cond H₂ s₂ ⟨h1, h2, h3, h4⟩
  refine hP I wr St items cond H₂ s₂ ⟨_, pure_inv g hx h1 h3, fun D hD => ⟨[], rfl, rfl, hD, rfl⟩, ?_, ?_⟩
  · rintro D r acc H ⟨done, _, _, e3, rfl⟩; exact h2 _ (Hp.le_set e3)
  · rintro D acc H' ⟨done, e1, e2, e3, rfl⟩
    refine ⟨_, _, fz_new e3, ?_⟩
    rw [List.append_nil] at e1
    rw [e2, ← e1]; exact h4
theorem ExecW.assign_compO {y p' x p elt iter ifs scope cpos pos} (g : V → Option V) (hk : env.kindOf y = some .local) (cs : compOk env scope = true) (hd : C.hd = true) (hx : compVar env scope x = true)
    (h : IterE C k env false iter (fun items cond H₁ => items.length ≤ 1000 ∧ (∀ H', Hp.le H₁ H' → cond H') ∧ (∀ v ∈ items, ∀ H', Hp.le H₁ H' → PureStep C k env x elt ifs scope ρ g H' v) ∧ ∀ D, H₁ D = Option.none → QS .next (ρ.set y (.ref D)) (H₁.set D (.list (items.filterMap g)))) (fun v H' => RS v ρ H') ρ H)
    (hsw : swapsWith (.ListComp elt [⟨.Name x p, iter, ifs, 0⟩] scope cpos) (some (.Name y p')) pos.line env = pure true := by rfl)
    (hs : ∀ x, foldedSetIterable iter env x = pure x := by intro _; rfl) :
    ExecW C k env (.Assign [.Name y p'] (.ListComp elt [⟨.Name x p, iter, ifs, 0⟩] scope cpos) pos) QS RS ρ H := by
  refine ExecW.assign_comp false hk cs hd (fun e => by cases e) ?_ hsw hs
  intro A a s S P PE hPE hP
  refine h A a s S P PE hPE ?_
  rintro I wr St items cond H₂ s₂ ⟨h1, h2, h3, h4⟩
  refine hP I wr St items cond H₂ s₂ ⟨_, pure_inv g hx h1 h3, fun D hD => ⟨[], rfl, rfl, hD, rfl⟩, ?_, ?_⟩
  · rintro D r acc H ⟨done, _, _, e3, rfl⟩; exact h2 _ (Hp.le_set e3)
  · rintro D acc H' ⟨done, e1, e2, e3, rfl⟩
    refine ⟨_, _, Fz.refl, ?_⟩
    rw [List.append_nil] at e1
    rw [e2, ← e1]; exact h4 D e3
end Mine

set_option Elab.async false
set_option linter.unusedVariables false
namespace Mine
open PySem PySem.W PyProof.Rows

variable {C : Cx} {k : Nat} {env : Env} {ρ : Rho} {H : Hp} {Q R : V → Hp → Prop} {QB : Bool → Hp → Prop} {QS : Fl → Rho → Hp → Prop} {RS : V → Rho → Hp → Prop}

theorem ite_w {b : Bool} {A B : Prop} (h1 : b = true → A) (h2 : b = false → B) : if b = true then A else B := by
  cases b
  · simpa using h2 rfl
  · simpa using h1 rfl
theorem ite_t {b : Bool} {A B : Prop} (h : b = true) (h1 : A) : if b = true then A else B := by rw [if_pos h]; exact h1
theorem ite_f {b : Bool} {A B : Prop} (h : b = false) (h1 : B) : if b = true then A else B := by rw [if_neg (by rw [h]; decide)]; exact h1

noncomputable def AllQ (ok : Prop) (l0 : List (Str × V)) (H₁ : Hp) (Rt : V → Rho → Hp → Prop) : Fl → Rho → Hp → Prop
  | .next, ρ, H => ok ∧ H = H₁ ∧ Rho.sat l0 ρ
  | .cont, ρ, H => ok ∧ H = H₁ ∧ Rho.sat l0 ρ
  | .brk, _, _ => False
  | .ret u, ρ, H => Rt u ρ H

theorem ExecW.for_all {target iter body pos} (tup : Bool) (hd : C.hd = true) (ht : IsTupleE tup target) (l0 : List (Str × V)) (hl : Rho.sat l0 ρ)
    (h : IterE C k env tup iter (fun items cond H₁ => ∃ p : Nat → Prop, (cond H₁) ∧
      (∀ (i : Nat) v, items[i]? = some v → (∀ j, j < i → p j) → AssignW C k env target v (fun ρ' => ExecsW C k env body (AllQ (p i) l0 H₁ (fun u ρ'' H'' => QS (.ret u) ρ'' H'')) (fun _ _ _ => False) ρ' H₁) (Rho.of l0) H₁) ∧
      ((∀ j, j < items.length → p j) → QS .next (Rho.of l0) H₁)) (fun v H' => RS v ρ H') ρ H)
    (hs : ∀ x, foldedSetIterable iter env x = pure x := by intro _; rfl) : ExecW C k env (.For target iter body [] pos) QS RS ρ H := by
  refine ExecW.for_in tup hd ht ?_ hs
  intro A a s S P PE hPE hP
  refine h A a s S P PE hPE ?_
  rintro I wr St items cond H₁ s₂ ⟨p, hc, step, fin⟩
  refine hP I wr St items cond H₁ s₂ ⟨fun r l H => l = l0 ∧ H = H₁ ∧ ∃ i, r = items.drop i ∧ i ≤ items.length ∧ ∀ j, j < i → p j, ⟨l0, ⟨rfl, rfl, 0, rfl, Nat.zero_le _, fun j hj => absurd hj (Nat.not_lt_zero j)⟩, hl⟩, ?_, ?_, ?_⟩
  · rintro r l H ⟨rfl, rfl, _⟩; exact hc
  · rintro v r l H ⟨rfl, rfl, i, e, hi, hp⟩
    have hv : items[i]? = some v := by
      have := congrArg List.head? e
      simpa [List.head?_drop] using this.symm
    have hlt : i < items.length := (List.getElem?_eq_some_iff.mp hv).1
    have hr : r = items.drop (i + 1) := by
      have := congrArg List.tail e
      simpa [List.tail_drop] using this
    refine (step i v hv hp).conseq fun ρ' hb => hb.conseq fun fl ρ₁ H₁ q => ⟨ρ₁, Rho.le_refl _, ?_⟩
    have nx : ∀ {ρ₁ : Rho} {H₂ : Hp}, p i ∧ H₂ = H ∧ Rho.sat l ρ₁ → ∃ l', (l' = l ∧ H₂ = H ∧ ∃ i, r = items.drop i ∧ i ≤ items.length ∧ ∀ j, j < i → p j) ∧ Rho.sat l' ρ₁ := by
      rintro ρ₁ H₂ ⟨a, rfl, c⟩
      refine ⟨l, ⟨rfl, rfl, i + 1, hr, hlt, fun j hj => ?_⟩, c⟩
      by_cases q : j = i
      · rw [q]; exact a
      · exact hp j (by omega)
    cases fl with
    | next => exact nx q
    | cont => exact nx q
    | brk => exact q.elim
    | ret u => exact q
  · rintro l H ⟨rfl, rfl, i, e, hi, hp⟩
    have hle : items.length ≤ i := by
      have := congrArg List.length e
      simp at this; omega
    exact fin fun j hj => hp j (by omega)

theorem Hp.le_set' {H₀ H : Hp} {a : Addr} {o : O} (h : Hp.le H₀ H) (ha : H₀ a = Option.none) : Hp.le H₀ (H.set a o) := fun b ob e => by
  unfold Hp.set; split
  · rename_i q; subst q; rw [ha] at e; cases e
  · exact h b ob e
theorem fz_own {H₀ H : Hp} {a : Addr} {l : List V} (ha : H a = some (.list l)) (h : Hp.le H₀ H) (h0 : H₀ a = Option.none) : Fz H (.ref a) (.lst l) H₀ := by
  refine Fz.of (D := fun b => b = a) (.thaw rfl ha (fz_new.FzRL_refl l)) h ?_
  rintro b rfl; exact h0
end Mine
namespace Mine
open PySem PySem.W PyProof.Rows
variable {C : Cx} {k : Nat} {env : Env} {ρ : Rho} {H : Hp} {Q R : V → Hp → Prop} {QB : Bool → Hp → Prop} {QS : Fl → Rho → Hp → Prop} {RS : V → Rho → Hp → Prop}
theorem Cont.next {rest} (h : ExecsW C k env rest QS RS ρ H) : Cont C k env rest QS RS .next ρ H := h
theorem Cont.ret {rest v} (h : QS (.ret v) ρ H) : Cont C k env rest QS RS (.ret v) ρ H := h
theorem RetQ.here {v} (h : Q v H) : RetQ Q (.ret v) ρ H := ⟨_, _, Fz.refl, h⟩
theorem RetQ.fz {v v' H'} (f : Fz H v v' H') (h : Q v' H') : RetQ Q (.ret v) ρ H := ⟨_, _, f, h⟩
end Mine
namespace Mine
open PySem PySem.W PyProof.Rows
variable {C : Cx} {k : Nat} {env : Env} {ρ : Rho} {H : Hp} {Q R : V → Hp → Prop} {QB : Bool → Hp → Prop} {QS : Fl → Rho → Hp → Prop} {RS : V → Rho → Hp → Prop}
theorem drop_cons {items : List V} {v : V} {r : List V} {i : Nat} (e : v :: r = items.drop i) : items[i]? = some v ∧ r = items.drop (i + 1) ∧ i < items.length := by
  have hv : items[i]? = some v := by
    have := congrArg List.head? e
    simpa [List.head?_drop] using this.symm
  refine ⟨hv, ?_, (List.getElem?_eq_some_iff.mp hv).1⟩
  have := congrArg List.tail e
  simpa [List.tail_drop] using this
theorem drop_nil {items : List V} {i : Nat} (e : [] = items.drop i) : items.length ≤ i := by
  have := congrArg List.length e
  simp at this; omega
theorem PureStep.map {x elt scope} {g : V → Option V} {v : V} {ρ' : Rho} (hρ : ρ' = (Rho.hide scope ρ).set x v) (h : ∀ L, EvalW C k (cenvOf env scope L) elt (fun u H₃ => H₃ = H ∧ g v = some u) (fun _ _ => False) ρ' H) : PureStep C k env x elt [] scope ρ g H v :=
  fun L => IfsW.nil ⟨rfl, by simpa using hρ ▸ h L⟩
theorem PureStep.filt {x elt c scope} {g : V → Option V} {v : V} {ρ' : Rho} (hρ : ρ' = (Rho.hide scope ρ).set x v) (h : ∀ L, TestW C k (cenvOf env scope L) c (fun b H₂ => H₂ = H ∧ if b = true then EvalW C k (cenvOf env scope L) elt (fun u H₃ => H₃ = H ∧ g v = some u) (fun _ _ => False) ρ' H else g v = Option.none) (fun _ _ => False) ρ' H) : PureStep C k env x elt [c] scope ρ g H v :=
  fun L => IfsW.one (hρ ▸ h L)
end Mine
namespace Mine
open PySem PySem.W PyProof.Rows
theorem Storable.l {env : Env} {x : Str} (h : env.kindOf x = some .local) : Storable env x := Or.inl h
theorem Storable.c {env : Env} {x : Str} (h : env.kindOf x = some .cell) (h' : (env.cells.lookup x).isSome = true) : Storable env x := Or.inr ⟨h, h'⟩
end Mine
namespace Mine
open PySem PySem.W PyProof.Rows
variable {C : Cx} {k : Nat} {env : Env} {ρ : Rho} {H : Hp} {Q R : V → Hp → Prop} {QB : Bool → Hp → Prop} {QS : Fl → Rho → Hp → Prop} {RS : V → Rho → Hp → Prop} {QL : List V → Hp → Prop}
theorem gE {e} (h : EvalW C k env e Q R ρ H) : EvalW C k env e Q R ρ H := h
theorem gName {x p} (h : EvalW C k env (.Name x p) Q R ρ H) : EvalW C k env (.Name x p) Q R ρ H := h
theorem gConst {x c p} (h : EvalW C k env (.Constant x c p) Q R ρ H) : EvalW C k env (.Constant x c p) Q R ρ H := h
theorem gCall {f a b p} (h : EvalW C k env (.Call f a b p) Q R ρ H) : EvalW C k env (.Call f a b p) Q R ρ H := h
theorem gT {e} (h : TestW C k env e QB R ρ H) : TestW C k env e QB R ρ H := h
theorem gS {e} (h : ExecW C k env e QS RS ρ H) : ExecW C k env e QS RS ρ H := h
theorem gX {e} (h : ExecsW C k env e QS RS ρ H) : ExecsW C k env e QS RS ρ H := h
theorem gA {e} (h : ArgsW C k env e QL R ρ H) : ArgsW C k env e QL R ρ H := h
theorem gB {o v w} (h : BinW C k o v w Q R H) : BinW C k o v w Q R H := h
theorem gC {o v w} (h : CmpW C k o v w Q R H) : CmpW C k o v w Q R H := h
end Mine

set_option Elab.async false
set_option linter.unusedVariables false
namespace Mine
open PySem PySem.W PyProof.Rows

variable {C : Cx} {k : Nat} {K : Frag} {env : Env} {ρ : Rho} {H : Hp} {Q R : V → Hp → Prop} {QS : Fl → Rho → Hp → Prop} {RS : V → Rho → Hp → Prop}

noncomputable def V.plain : V → Bool
  | .con _ => false
  | _ => true
theorem VRel.handed {h : Heap} {H : Hp} {v : V} {x : Value} (r : VRel h H v x) (hv : v.plain = true) : handedIn x = true := by
  cases r <;> first | rfl | cases hv

theorem noRefKey {es : Array DictEntry} (hk : StrKeys es) : es.any (·.refKey) = false := by
  rw [Array.any_eq_false']; intro e he; obtain ⟨n, t, h⟩ := hk e he; simp [DictEntry.refKey, h]
theorem lookIn_ns {o : Obj} {es : Array DictEntry} {ep : Nat} {name : Str} (hd : o.data = .dict es ep) (hk : StrKeys es) : lookIn name o = some (nsFind es name) := by
  have h2 := noRefKey hk
  rw [← Array.any_toList] at h2
  unfold lookIn nsFind findBy
  rw [hd]
  dsimp only
  rw [← Array.find?_toList]
  cases hf : es.toList.find? (fun e => e.key.isStr name) with
  | some e => rfl
  | none => simp [h2]

theorem putName_ns {o : Obj} {es : Array DictEntry} {ep : Nat} (hd : o.data = .dict es ep) (hk : StrKeys es) (name : Str) (hash : Int) (t : Tok) (v : Value) :
    ∃ es' ep', (Obj.putName name hash (.str name t) v o).data = .dict es' ep' ∧ StrKeys es' ∧ (∀ x, nsFind es' x = if x = name then some v else nsFind es x) ∧ es'.size ≤ es.size + 1 ∧ ((nsFind es name).isSome = true → es'.size = es.size) := by
  obtain ⟨c, d, dt, sl⟩ := o
  simp only at hd
  subst hd
  cases hi : es.findIdx? (·.key.isStr name) with
  | some i =>
    refine ⟨_, ep, by simp only [Obj.putName_eq, Obj.putNameByArray, hi], hk.modify _ _, fun x => findBy_modify (fun n v => v.isStr n) Value.isStr_inj es name x v i hi, by simp, fun _ => by simp⟩
  | none =>
    refine ⟨_, ep + 1, by simp only [Obj.putName_eq, Obj.putNameByArray, hi]; rfl, hk.push _ _ _ _, fun x => findBy_push (fun n v => v.isStr n) es name x _ _ v (fun y => by
      show (name == y) = decide (y = name)
      by_cases h : y = name
      · subst h; simp
      · have : ¬ name = y := fun e => h e.symm
        simp [h, this]) hi, by simp, fun q => ?_⟩
    unfold nsFind findBy at q
    have : es.find? (fun e => e.key.isStr name) = Option.none := by
      rw [Array.find?_eq_none]; intro e he
      simpa using (Array.findIdx?_eq_none_iff.mp hi) e he
    rw [this] at q; cases q

structure ClsOk (K : Frag) (c : Addr) : Prop where
  get : findIn K (.ref c) "__getattribute__" = some (some (.builtin "object.__getattribute__"))
  set : findIn K (.ref c) "__setattr__" = some (some (.builtin "object.__setattr__"))
  hook : findIn K (.ref c) "__getattr__" = some none
  over : plainOver K c = true
  dict : (clsIn K c).any (·.hasDict) = true

theorem PCx.at (P : PCx C K) {s : Shared} (S : Sim C H s) : K.In s.heap := fun b o e => S.keep b o (P.X b o e)

theorem Sim.instAt {s : Shared} {a c d : Addr} {m : Str → Option V} {n : Nat} (S : Sim C H s) (ha : H a = some (.inst c d)) (hd : H d = some (.ns m n)) :
    ∃ od es ep, InstAt s.heap a { cls := .ref c, dict := some d, data := .plain } c (some od) ∧ s.heap.get? d = some od ∧ od.data = .dict es ep ∧ StrKeys es ∧ es.size ≤ n ∧ ∀ k, OptRel s.heap H (m k) (nsFind es k) := by
  have ra := S.objs _ _ ha
  obtain ⟨od, es, ep, e, hdat, hk, hz, hr⟩ := S.objs _ _ hd
  exact ⟨od, es, ep, ⟨ra, rfl, rfl, e⟩, e, hdat, hk, hz, hr⟩

noncomputable def AttrW (C : Cx) (k : Nat) (v : V) (name : Str) (Q R : V → Hp → Prop) (H : Hp) : Prop :=
  ∀ A, Lv C k A → ∀ s x, Sim C H s → VRel s.heap H v x → wpAny C.M A (getAttr x name true) (Post C H s.heap VRel Q) (Post C H s.heap VRel R) s
theorem EvalW.attr {o name pos} (h : EvalW C k env o (fun v H₁ => AttrW C k v name Q R H₁) R ρ H)
    (he : eval (.Attribute o name pos) env = (do
      let x ← eval o env
      standAt pos.atName
      let r ← holding [x] (getAttr x name true)
      letTemporaryGo o x r
      pure r) := by with_unfolding_all rfl) : EvalW C k env (.Attribute o name pos) Q R ρ H := fun A a s S =>
  Attribute_any_ (wp_go (h A a s S) fun x v H₁ s₁ h₁ S₁ r₁ E₁ => wp_fin E₁ (h₁ A a s₁ x S₁ r₁)) he

theorem OptRel.get {h : Heap} {H : Hp} {v : V} {o : Option Value} (r : OptRel h H (some v) o) : ∃ u, o = some u ∧ VRel h H v u := by
  cases o with
  | none => exact r.elim
  | some u => exact ⟨u, rfl, r⟩
theorem OptRel.no {h : Heap} {H : Hp} {o : Option Value} (r : OptRel h H Option.none o) : o = Option.none := by
  cases o with
  | none => rfl
  | some u => exact r.elim

theorem AttrW.inst (P : PCx C K) {a c d : Addr} {m : Str → Option V} {n : Nat} {name : Str} {v : V} (hc : ClsOk K c) (ha : H a = some (.inst c d)) (hd : H d = some (.ns m n)) (hm : m name = some v)
    (hx : findIn K (.ref c) name = some none) (hv : v.plain = true) (h : Q v H) : AttrW C k (.ref a) name Q R H := fun A lv s x S r => by
  cases r
  obtain ⟨od, es, ep, I, e, hdat, hk, hz, hr⟩ := S.instAt ha hd
  have hu := hr name
  rw [hm] at hu
  obtain ⟨u, hf, hu⟩ := hu.get
  obtain ⟨cd, hcd, hh⟩ := any_some hc.dict
  have hfo : findObj K c (some od) name = some (.value u) := by
    unfold findObj
    rw [hcd, hx]
    simp only [Option.bind_some]
    unfold W.ownOf
    rw [hh]
    simp [lookIn_ns hdat hk, hf]
  exact get_value (P.at S) I hc.get hfo (hu.handed hv) (Post.here h (S.toks _) hu rfl)

noncomputable def SetAttrW (C : Cx) (k : Nat) (v : V) (name : Str) (u : V) (Q : Hp → Prop) (R : V → Hp → Prop) (H : Hp) : Prop :=
  ∀ A, Lv C k A → ∀ s x z, Sim C H s → VRel s.heap H v x → VRel s.heap H u z → wpAny C.M A (setAttr x name z) (Post C H s.heap (fun _ _ (_ _ : Unit) => True) (fun _ H' => Q H')) (Post C H s.heap VRel R) s
theorem ExecW.assign_attr {o attr p' e p} (h : EvalW C k env e (fun u H₁ => EvalW C k env o (fun v H₂ => SetAttrW C k v attr u (fun H₃ => QS .next ρ H₃) (fun w H' => RS w ρ H') H₂) (fun w H' => RS w ρ H') ρ H₁) (fun w H' => RS w ρ H') ρ H)
    (hs : swapsWith e (some (.Attribute o attr p')) p.line env = pure false := by rfl) : ExecW C k env (.Assign [.Attribute o attr p'] e p) QS RS ρ H := fun A a s S => by
  refine plainObj_wpAny_Assign_Attribute (wp_go (h A a s S) (fun z u H₁ s₁ h₁ S₁ r₁ E₁ => ?_) fun _ _ p => p.toX S) hs
  refine wp_go (h₁ A a s₁ (S.ext S₁ E₁)) (fun x v H₂ s₂ h₂ S₂ r₂ E₂ => ?_) fun _ _ p => (p.after E₁).toX S
  refine wpAny_mono (h₂ A a s₂ x z S₂ r₂ (r₁.ext E₂)) ?_ fun _ _ p => (p.after (E₁.trans E₂)).toX S
  rintro _ s₄ ⟨_, H₄, q, S₄, _, E₄⟩
  have E := (E₁.trans E₂).trans E₄
  exact ⟨.next, ρ, H₄, q, trivial, S.ext S₄ E, E.toF⟩

theorem SetAttrW.gen (P : PCx C K) {a c d : Addr} {m : Str → Option V} {n n' : Nat} {name : Str} {u : V} {QH : Hp → Prop} (hc : ClsOk K c) (ha : H a = some (.inst c d)) (hd : H d = some (.ns m n))
    (hx : findIn K (.ref c) name = some none) (hn : n ≤ 900) (hn' : n + 1 ≤ n' ∨ (n ≤ n' ∧ (m name).isSome = true)) (h : QH (H.set d (.ns (Rho.set m name u) n'))) : SetAttrW C k (.ref a) name u QH R H := fun A lv s x z S r1 r2 => by
  cases r1
  obtain ⟨od, es, ep, I, e, hdat, hk, hz, hr⟩ := S.instAt ha hd
  have X := P.at S
  refine set_plain X I hc.set ?_
  refine osa_open (s := { s with toks := s.toks + 1 }) X I hc.over (r := none) (by unfold takerIn; rw [hx]; rfl) fun b => ?_
  obtain ⟨cd, hcd, hh⟩ := any_some hc.dict
  obtain ⟨hx1, hcl, hn1, -⟩ := I
  refine wpAny_bind (wpAny_pure (wpAny_bind (wpAny_bind (wpAny_loadPart hx1 (wpAny_bind (looks_clsIn X hcd _ _ _ _ (fun _ _ e => e) ?_))))))
  rw [hh]
  refine wpAny_pure (a := some d) (wpAny_bind (wpAny_pure (wpAny_bind ?_)))
  unfold nsSet
  refine wpAny_bind (wpAny_bind (wpAny_askSetting (wpAny_pure (wpAny_bind (wpAny_mkText (wpAny_bind (wpAny_loadPart e ?_)))))))
  rw [hdat]
  dsimp only
  rw [aRefKeyMayBeTheName_at, noRefKey hk, Bool.and_false]
  obtain ⟨es', ep', g1, g2, g3, g4, g5⟩ := putName_ns hdat hk name (PyData.keyHash C.w.params name) (s.toks + 1) z
  have e' : (s.heap.update d (Obj.putName name (PyData.keyHash C.w.params name) (.str name (s.toks + 1)) z)).get? d = some (Obj.putName name (PyData.keyHash C.w.params name) (.str name (s.toks + 1)) z od) := Heap.get?_update_self _ e (Obj.isFreed_of_dict g1)
  have hsb := Heap.SameBut.update s.heap d (Obj.putName name (PyData.keyHash C.w.params name) (.str name (s.toks + 1)) z)
  have hsz : es'.size ≤ n' := by
    rcases hn' with q | ⟨q1, q2⟩
    · omega
    · rw [g5 ?_]; · omega
      obtain ⟨w, hw⟩ := Option.isSome_iff_exists.mp q2
      have := hr name; rw [hw] at this
      obtain ⟨y, hy, _⟩ := this.get
      rw [hy]; rfl
  refine wpAny_updatePart e ?_
  refine wpAny_bind (wpAny_lookBehind e' (by rw [g1]; exact pastItsLine_dict (by rw [sizeLine_eq]; omega)) ?_)
  refine wpAny_pure ?_
  have hne : ∀ b, H b = none → b ≠ d := fun b e' q => by rw [q, hd] at e'; cases e'
  have E0 : ∀ o', ExtV H s.heap (H.set d o') (s.heap.update d (Obj.putName name (PyData.keyHash C.w.params name) (.str name (s.toks + 1)) z)) := fun o' b ob _ _ e _ n => ⟨.of ((hsb.2 b (hne b n)).trans e), by unfold Hp.set; rw [if_neg (hne b n)]; exact n⟩
  obtain ⟨S', E'⟩ := S.update (s' := { s with heap := s.heap.update d (Obj.putName name (PyData.keyHash C.w.params name) (.str name (s.toks + 1)) z), toks := s.toks + 1 + 1 }) (o' := .ns (Rho.set m name u) n') hd hsb ⟨_, e'⟩ rfl rfl
    ⟨_, es', ep', e', g1, g2, hsz, fun x => by
      rw [g3]
      unfold Rho.set
      by_cases q : x = name
      · simp only [q, if_true]; exact r2.extV (E0 _)
      · simp only [q, if_false]; exact (hr x).extV (E0 _)⟩
  exact ⟨(), _, h, S', trivial, E'⟩

noncomputable def putL : List (Str × V) → Str → V → List (Str × V)
  | [], x, v => [(x, v)]
  | (y, w) :: l, x, v => if y = x then (y, v) :: l else (y, w) :: putL l x v
theorem of_putL : ∀ (l : List (Str × V)) (x : Str) (v : V), Rho.set (Rho.of l) x v = Rho.of (putL l x v)
  | [], x, v => rfl
  | (y, w) :: l, x, v => by
    unfold putL
    split
    · rename_i q; subst q
      funext z; simp only [Rho.of, Rho.set]; split <;> rfl
    · rename_i q
      show Rho.set (Rho.set (Rho.of l) y w) x v = Rho.set (Rho.of (putL l x v)) y w
      rw [← of_putL l x v]
      funext z; simp only [Rho.set]
      by_cases h1 : z = x
      · subst h1; have : ¬ z = y := fun e => q e.symm
        simp [this]
      · simp [h1]
theorem SetAttrW.inst (P : PCx C K) {a c d : Addr} {l : List (Str × V)} {n : Nat} {name : Str} {u : V} {QH : Hp → Prop} (hc : ClsOk K c) (ha : H a = some (.inst c d)) (hd : H d = some (.ns (Rho.of l) n))
    (hx : findIn K (.ref c) name = some none) (hn : n ≤ 900) (hl : (Rho.of l name).isSome = true) (h : QH (H.set d (.ns (Rho.of (putL l name u)) n))) : SetAttrW C k (.ref a) name u QH R H :=
  SetAttrW.gen P (n' := n) hc ha hd hx hn (.inr ⟨Nat.le_refl _, hl⟩) (by rw [of_putL]; exact h)
theorem SetAttrW.new (P : PCx C K) {a c d : Addr} {l : List (Str × V)} {n : Nat} {name : Str} {u : V} {QH : Hp → Prop} (hc : ClsOk K c) (ha : H a = some (.inst c d)) (hd : H d = some (.ns (Rho.of l) n))
    (hx : findIn K (.ref c) name = some none) (hn : n ≤ 900) (h : QH (H.set d (.ns (Rho.of (putL l name u)) (n + 1)))) : SetAttrW C k (.ref a) name u QH R H :=
  SetAttrW.gen P (n' := n + 1) hc ha hd hx hn (.inl (Nat.le_refl _)) (by rw [of_putL]; exact h)

theorem MethIs.own (P : PCx C K) {a c d f : Addr} {m : Str → Option V} {n : Nat} {name : Str} (hc : ClsOk K c) (ha : H a = some (.inst c d)) (hd : H d = some (.ns m n)) (hm : m name = none)
    (hf : findIn K (.ref c) name = some (some (.ref f))) (ht : typeIn K (.ref f) = some (.type "function")) : MethIs C H (.ref a) name (.ref f) := by
  intro A s x pl Q E S r hq
  cases r
  obtain ⟨od, es, ep, I, e, hdat, hk, hz, hr⟩ := S.instAt ha hd
  have hu := hr name
  rw [hm] at hu
  exact method_fn (P.at S) I hc.get hc.hook hf ht (by unfold shadowIn; simp [lookIn_ns hdat hk, hu.no]) hq

theorem Plainly.cls (P : PCx C K) {c : Addr} (hk : keepIn K (.ref c) = true) : Plainly C (.ref c) := fun A E Q s first pos args hp h =>
  callWith_of (P := fun h => K.In h) (by rw [hp]; rfl) (keeps_K hk) (evalArgs_any hp (wpAny_mono h (fun vs s₁ x => ⟨fun b o e => x.1 b o (P.X b o e), x.2⟩) fun _ _ x => x))

theorem under_typeCall (A : Around) (c : Addr) (rest : List Value) (kw : List (Str × Value)) : (Code.builtin "type.__call__" ⟨.ref c :: rest, kw⟩).weight = 1 ∧ (Code.builtin "type.__call__" ⟨.ref c :: rest, kw⟩).cUnits = 1 := ⟨by with_unfolding_all rfl, by with_unfolding_all rfl⟩
theorem CallW.make (P : PCx C K) {c fI : Addr} {Sp : SpecT} {args : List V} (hm : makesIn K c = true) (hi : findIn K (.ref c) "__init__" = some (some (.ref fI))) (hf : typeIn K (.ref fI) = some (.type "function")) (init : FnOK C k (.ref fI) Sp)
    (h : ∀ x d, H x = none → H d = none → x ≠ d → Sp (.ref x :: args) (fun v H' => v = .none ∧ Q (.ref x) H') R ((H.set d (.ns (Rho.of []) 0)).set x (.inst c d))) : CallW C (k + 1) (.ref c) args Q R H := fun A lv s xs S r => by
  have X := P.at S
  obtain ⟨hh, g, dr, t, os⟩ := s
  refine wpAny_call ?_
  refine make_core (makes_of X hm) (looks_findIn X hi) (fun self => bind_fn X self hf) (.inl rfl) ?_
  have k1 : ∀ b o, hh.get? b = some o → (hh.push emptyDict).get? b = some o := fun b o e => Heap.get?_push_of_some _ e
  have k2 : ∀ b o, (hh.push emptyDict).get? b = some o → ((hh.push emptyDict).push (instObj c hh.objs.size)).get? b = some o := fun b o e => Heap.get?_push_of_some _ e
  obtain ⟨S1, E1⟩ := S.alloc (s' := ⟨hh.push emptyDict, g, dr, t, os⟩) (o := .ns (Rho.of []) 0) k1 rfl rfl
    ⟨emptyDict, #[], 0, Heap.get?_push_size _ rfl, rfl, fun _ he => by simp at he, Nat.le_refl _, fun _ => trivial⟩
  have hz : (hh.push emptyDict).objs.size = hh.objs.size + 1 := Heap.size_push ..
  obtain ⟨S2, E2⟩ := S1.alloc (s' := ⟨(hh.push emptyDict).push (instObj c hh.objs.size), g, dr, t, os⟩) (o := .inst c hh.objs.size) k2 rfl rfl (Heap.get?_push_size _ rfl)
  have f1 : H hh.objs.size = none := S.fresh (Nat.le_refl _)
  have f2 : H (hh.objs.size + 1) = none := S.fresh (Nat.le_succ _)
  dsimp only at S1 E1 S2 E2
  rw [hz] at S2 E2
  obtain ⟨w1, w2⟩ := under_typeCall A c xs []
  have lv' : Lv C k (A.under (.builtin "type.__call__" ⟨.ref c :: xs, []⟩)) :=
    ⟨fun e => lv.handled e, by have := lv.depth; show A.depth + Code.weight _ + 2 * k + 100 < _; rw [w1]; omega, by have := lv.units; show A.units + Code.cUnits _ + 40 * k + 100 < _; rw [w2]; omega, fun l e => lv.frames l e⟩
  refine codeAny_mono (init _ lv' _ _ (.ref (hh.objs.size + 1) :: args) (.ref (hh.objs.size + 1) :: xs) _ _ S2 (.cons (.ref _) (r.ext (E1.trans E2))) (h (hh.objs.size + 1) hh.objs.size f2 f1 (Nat.succ_ne_self _))) fun r s' z => ?_
  rcases r with e | (_ | _ | _ | v)
  · exact Post.after (E1.trans E2) z
  · exact z.elim
  · exact z.elim
  · exact z.elim
  · obtain ⟨v', H', ⟨hv, q⟩, S', rv, E'⟩ := z
    subst hv
    have : v = .none := by cases rv; rfl
    refine ⟨this, ?_⟩
    exact ⟨_, H', q, S', .ref _, (E1.trans E2).trans E'⟩

theorem ExecW.assign_tuple {es n p' e p xs} (hst : StA env es xs) (hd : C.hd = true)
    (h : EvalW C k env e (fun v H' => ∃ vs, v = .tup vs ∧ vs.length = xs.length ∧ QS .next (setAll ρ xs vs) H') (fun v H' => RS v ρ H') ρ H)
    (hs : swapsWithSole [.Tuple es n p'] e p.line env = pure false := by rfl) (hw : swappedStores [.Tuple es n p'] e env = pure none := by rfl) : ExecW C k env (.Assign [.Tuple es n p'] e p) QS RS ρ H := fun A a s S => by
  refine Assign_Tuple (wpAny_mono (h A a s S) ?_ fun _ _ p => p.toX S) hs hw
  rintro u s' ⟨v, H', ⟨vs, rfl, hl, q⟩, S', r, E⟩
  exact AssignW.tuple (Q := fun ρ' => QS .next ρ' H') hst hl hd q A a s' u (S.ext S' E) r _ _ (fun ρ' s'' q' S'' E'' => ⟨.next, ρ', H', q', trivial, S'', E.toF.trans E''⟩)

end Mine

set_option Elab.async false
set_option linter.unusedVariables false
namespace Mine
open PySem

abbrev Wt := Option (Bool × List Nat)
noncomputable def nv (n : Nat) : V := .int n
noncomputable def ov : Option Nat → V
  | none => .none
  | some n => .int n
noncomputable def wv : Wt → V
  | none => .none
  | some (b, l) => .tup [.str (Str.ofString (if b = true then "all" else "any")), .lst (l.map nv)]
noncomputable def WOk (m : Nat) : Wt → Prop
  | none => True
  | some (_, l) => l ≠ [] ∧ l.Nodup ∧ (∀ x ∈ l, x < m) ∧ l.length ≤ 100

noncomputable def cellV (ns : List Int) (i : Int) : Int := ns.getD i.toNat 0
/- ints in lists -/
theorem datL_nv (l : List Nat) : datL (l.map nv) = (l.map fun (n : Nat) => (n : Int)).map PyData.int := by
  induction l with
  | nil => rfl
  | cons x l ih => simp only [List.map_cons, datL, ih, nv, V.dat]
theorem pureL_nv (l : List Nat) : pureL (l.map nv) = true := by
  induction l with
  | nil => rfl
  | cons x l ih => simp only [List.map_cons, pureL, ih, nv, V.pure]; rfl
end Mine
namespace Mine
open PySem PySem.W PyProof.Rows
variable {C : Cx} {k : Nat} {env : Env} {ρ : Rho} {H : Hp} {Q R : V → Hp → Prop}

theorem okD_ints (l : List Int) : okD (.list (l.map .int)) = true := by
  have a : PyData.canLayAll0 (l.map .int) = true := by
    induction l with
    | nil => rfl
    | cons x l ih => simp only [List.map_cons, PyData.canLayAll0, PyData.canLay0, ih]; rfl
  have b : PyData.depthAll (l.map .int) ≤ 1 := by
    induction l with
    | nil => simp [PyData.depthAll]
    | cons x l ih =>
      simp only [List.map_cons, PyData.canLayAll0, PyData.canLay0, Bool.true_and] at a
      have := ih a
      simp only [List.map_cons, PyData.depthAll, PyData.depth]; omega
  unfold okD SeqAt.shaped
  simp only [PyData.canLay0, PyData.depth, a]
  simp; omega
theorem eqvAll_ints : ∀ l l' : List Int, PyData.eqvAll (l.map .int) (l'.map .int) = (l == l')
  | [], [] => rfl
  | [], _ :: _ => rfl
  | _ :: _, [] => rfl
  | x :: l, y :: l' => by
    simp only [List.map_cons, PyData.eqvAll, PyData.eqv, eqvAll_ints l l']; rfl
theorem see_of {v : V} {l : List V} (h : lview H v = some l) : see H v = .lst l := by
  cases v with
  | lst l' => cases h; rfl
  | ref a =>
    simp only [lview, see] at h ⊢
    split at h
    · rename_i e; cases h; first | rfl | rw [e]
    · cases h
  | _ => cases h
theorem ints_eq (l l' : List Nat) : ((l.map fun (n : Nat) => (n : Int)) == (l'.map fun (n : Nat) => (n : Int))) = (l == l') := by
  rw [Bool.eq_iff_iff, beq_iff_eq, beq_iff_eq]
  constructor
  · intro h
    exact (List.map_inj_right (fun x y e => Int.ofNat.inj e)).mp h
  · rintro rfl; rfl
theorem eqv_nv (l l' : List Nat) : PyData.eqv (.list (datL (l.map nv))) (.list (datL (l'.map nv))) = (l == l') := by
  rw [datL_nv, datL_nv, PyData.eqv, eqvAll_ints, ints_eq]
theorem CmpW.eqN {v w : V} {l l' : List Nat} (hv : lview H v = some (l.map nv)) (hw : lview H w = some (l'.map nv)) (h : Q (.bool (l == l')) H) : CmpW C k .Eq v w Q R H := by
  have e1 := see_of hv
  have e2 := see_of hw
  refine CmpW.eq ?_ ?_ ?_ ?_ ?_ <;> simp only [e1, e2, V.pure, V.dat, pureL_nv]
  · rw [datL_nv]; exact okD_ints _
  · rw [datL_nv]; exact okD_ints _
  · rw [eqv_nv]; exact h
theorem CmpW.neN {v w : V} {l l' : List Nat} (hv : lview H v = some (l.map nv)) (hw : lview H w = some (l'.map nv)) (h : Q (.bool (l != l')) H) : CmpW C k .NotEq v w Q R H := by
  have e1 := see_of hv
  have e2 := see_of hw
  refine CmpW.ne ?_ ?_ ?_ ?_ ?_ <;> simp only [e1, e2, V.pure, V.dat, pureL_nv]
  · rw [datL_nv]; exact okD_ints _
  · rw [datL_nv]; exact okD_ints _
  · rw [eqv_nv]; exact h
theorem lview_nv0 : lview H (.lst []) = some (([] : List Nat).map nv) := rfl
end Mine
namespace Mine
noncomputable def goesB (b : Bool) (l : List Nat) (r : List (Option Nat)) : Bool :=
  if b = true then (l.map fun x => (r.getD x none).isSome).all id else (l.map fun x => (r.getD x none).isSome).any id
noncomputable def goesW : Wt → List (Option Nat) → Bool
  | none, _ => false
  | some (b, l), r => goesB b l r
noncomputable def freshUp (W : List Wt) (r : List (Option Nat)) (n : Nat) : List Nat := (List.range n).filter fun p => (r.getD p none).isNone && goesW (W.getD p none) r
noncomputable def setL (t : Nat) : List (Option Nat) → List Nat → List (Option Nat)
  | r, [] => r
  | r, p :: f => setL t (r.set p (some t)) f
noncomputable def run (W : List Wt) : Nat → Nat → List (Option Nat) → List (Option Nat)
  | 0, _, r => r
  | n + 1, t, r => if freshUp W r W.length = [] then r else run W n (t + 1) (setL (t + 1) r (freshUp W r W.length))
noncomputable def initR (W : List Wt) : List (Option Nat) := W.map fun w => if w.isNone = true then some 0 else none
noncomputable def freedL (W : List Wt) : List (Option Nat) := run W (W.length + 1) 0 (initR W)
noncomputable def partR (W : List Wt) (i : Nat) : List (Option Nat) := (List.range W.length).map fun p => if p < i ∧ (W.getD p none).isNone = true then some 0 else none

theorem partR_zero (W : List Wt) : (partR W 0).map ov = List.replicate W.length V.none := by
  apply List.ext_getElem?
  intro i
  simp only [partR, List.getElem?_map, List.getElem?_replicate]
  by_cases h : i < W.length
  · simp [h, ov]
  · rw [List.getElem?_eq_none (by simp; omega)]; simp [h]
theorem partR_full (W : List Wt) : partR W W.length = initR W := by
  apply List.ext_getElem?
  intro i
  simp only [partR, initR, List.getElem?_map]
  by_cases h : i < W.length
  · simp [h]
  · rw [List.getElem?_eq_none (by simp; omega), List.getElem?_eq_none (by omega)]; rfl
theorem partR_set (W : List Wt) (i : Nat) (h : W[i]? = some none) : (partR W i).set i (some 0) = partR W (i + 1) := by
  have hi := (List.getElem?_eq_some_iff.mp h).1
  apply List.ext_getElem?
  intro j
  rw [List.getElem?_set]
  simp only [partR, List.getElem?_map, List.length_map, List.length_range]
  by_cases hj : j < W.length
  · by_cases q : i = j
    · subst q
      have h' : W[i] = none := by rw [List.getElem?_eq_getElem hj] at h; exact Option.some.inj h
      simp [hj, h']
    · have : j < i + 1 ↔ j < i := by omega
      simp [hj, q, this]
  · rw [List.getElem?_eq_none (by simp; omega)]
    have : i ≠ j := by omega
    simp [this]
theorem partR_skip (W : List Wt) (i : Nat) (w : Bool × List Nat) (h : W[i]? = some (some w)) : partR W (i + 1) = partR W i := by
  apply List.ext_getElem?
  intro j
  simp only [partR, List.getElem?_map]
  by_cases hj : j < W.length
  · by_cases q : i = j
    · subst q
      have h' : W[i] = some w := by rw [List.getElem?_eq_getElem hj] at h; exact Option.some.inj h
      simp [hj, h']
    · have : j < i + 1 ↔ j < i := by omega
      simp [hj, this]
  · rw [List.getElem?_eq_none (by simp; omega)]; rfl
theorem partR_length (W : List Wt) (i : Nat) : (partR W i).length = W.length := by simp [partR]
theorem setL_length (t : Nat) : ∀ (f : List Nat) (r : List (Option Nat)), (setL t r f).length = r.length
  | [], r => rfl
  | p :: f, r => by simp [setL, setL_length t f]
theorem setL_append (t : Nat) : ∀ (f g : List Nat) (r : List (Option Nat)), setL t r (f ++ g) = setL t (setL t r f) g
  | [], g, r => rfl
  | p :: f, g, r => by simp only [List.cons_append, setL]; exact setL_append t f g _
theorem freshUp_succ (W : List Wt) (r : List (Option Nat)) (i : Nat) : freshUp W r (i + 1) = if ((r.getD i none).isNone && goesW (W.getD i none) r) = true then freshUp W r i ++ [i] else freshUp W r i := by
  unfold freshUp
  rw [List.range_succ, List.filter_append]
  by_cases h : ((r.getD i none).isNone && goesW (W.getD i none) r) = true
  · rw [if_pos h, List.filter_cons, if_pos h]; rfl
  · rw [if_neg h, List.filter_cons, if_neg h]; simp
noncomputable def cNone : List (Option Nat) → Nat
  | [] => 0
  | none :: r => cNone r + 1
  | some _ :: r => cNone r
theorem cNone_set : ∀ (r : List (Option Nat)) (p t : Nat), cNone (r.set p (some t)) ≤ cNone r ∧ (r[p]? = some none → cNone (r.set p (some t)) < cNone r)
  | [], p, t => by simp
  | x :: r, 0, t => by cases x <;> simp [cNone]
  | x :: r, p + 1, t => by
    have := cNone_set r p t
    simp only [List.set_cons_succ, List.getElem?_cons_succ]
    cases x <;> simp only [cNone] <;> refine ⟨by omega, fun h => ?_⟩ <;> have := this.2 h <;> omega
theorem cNone_setL (t : Nat) : ∀ (f : List Nat) (r : List (Option Nat)), cNone (setL t r f) ≤ cNone r
  | [], r => Nat.le_refl _
  | p :: f, r => Nat.le_trans (cNone_setL t f _) (cNone_set r p t).1
theorem cNone_length : ∀ r : List (Option Nat), cNone r ≤ r.length
  | [] => Nat.le_refl _
  | none :: r => by have := cNone_length r; simp only [cNone, List.length_cons]; omega
  | some _ :: r => by have := cNone_length r; simp only [cNone, List.length_cons]; omega
theorem mem_fresh {W : List Wt} {r : List (Option Nat)} {n p : Nat} : p ∈ freshUp W r n ↔ p < n ∧ r.getD p none = none ∧ goesW (W.getD p none) r = true := by
  simp [freshUp]
theorem cNone_fresh {W : List Wt} {r : List (Option Nat)} (t : Nat) (hl : r.length = W.length) (h : freshUp W r W.length ≠ []) : cNone (setL t r (freshUp W r W.length)) < cNone r := by
  cases hf : freshUp W r W.length with
  | nil => exact absurd hf h
  | cons p f =>
    have hp : p ∈ freshUp W r W.length := by rw [hf]; simp
    obtain ⟨h1, h2, _⟩ := mem_fresh.mp hp
    have : r[p]? = some none := by
      rw [List.getElem?_eq_getElem (by omega)]
      rw [List.getD_eq_getElem?_getD, List.getElem?_eq_getElem (by omega)] at h2
      simpa using h2
    exact Nat.lt_of_le_of_lt (cNone_setL t f _) ((cNone_set r p t).2 this)
theorem run_length (W : List Wt) : ∀ (n t : Nat) (r : List (Option Nat)), (run W n t r).length = r.length
  | 0, t, r => rfl
  | n + 1, t, r => by
    simp only [run]
    split
    · rfl
    · rw [run_length W n, setL_length]
theorem freedL_length (W : List Wt) : (freedL W).length = W.length := by rw [freedL, run_length]; simp [initR]
theorem fresh_length (W : List Wt) (r : List (Option Nat)) (n : Nat) : (freshUp W r n).length ≤ n := by
  unfold freshUp
  exact Nat.le_trans (List.length_filter_le ..) (by simp)
end Mine
namespace Mine
theorem getD_set (r : List (Option Nat)) (p q : Nat) (v : Option Nat) : (r.set p v).getD q none = if p = q ∧ q < r.length then v else r.getD q none := by
  simp only [List.getD_eq_getElem?_getD, List.getElem?_set]
  by_cases h : p = q
  · subst h
    by_cases h' : p < r.length
    · simp [h']
    · simp [h']
  · simp [h]
theorem setL_keep (t : Nat) : ∀ (f : List Nat) (r : List (Option Nat)) (q : Nat), r.getD q none ≠ none → (setL t r f).getD q none ≠ none
  | [], r, q, h => h
  | p :: f, r, q, h => by
    refine setL_keep t f _ q ?_
    rw [getD_set]; split
    · simp
    · exact h
theorem initR_some (W : List Wt) (p : Nat) (h : W[p]? = some none) : (initR W).getD p none ≠ none := by
  simp [initR, List.getD_eq_getElem?_getD, h]
end Mine
namespace Mine
noncomputable def gN (g : Nat → Option V) : V → Option V
  | .int i => g i.toNat
  | _ => none
theorem gN_nv (g : Nat → Option V) (n : Nat) : gN g (.int ((n : Nat) : Int)) = g n := by simp [gN]
theorem fm_gN (g : Nat → Option V) (l : List Nat) : (l.map nv).filterMap (gN g) = l.filterMap g := by
  rw [List.filterMap_map]
  congr 1
theorem rangeV_nv (n : Nat) : rangeV n = (List.range n).map nv := rfl
theorem fm_filter (p : Nat → Bool) (l : List Nat) : l.filterMap (fun n => if p n = true then some (nv n) else none) = (l.filter p).map nv := by
  induction l with
  | nil => rfl
  | cons x l ih =>
    rw [List.filterMap_cons, List.filter_cons]
    by_cases h : p x = true
    · simp only [h, if_true]; rw [ih]; rfl
    · simp only [h]; exact ih
theorem fm_map (f : Nat → V) (l : List Nat) : l.filterMap (fun n => some (f n)) = l.map f := by
  rw [List.filterMap_eq_map']
end Mine

set_option linter.unusedVariables false
namespace Mine

/- what the rounds say -/
end Mine

set_option linter.unusedVariables false
namespace Mine
open PySem PySem.W PyProof.Rows
variable {C : Cx} {k : Nat} {env : Env} {ρ : Rho} {H : Hp} {Q R : V → Hp → Prop} {QB : Bool → Hp → Prop} {QS : Fl → Rho → Hp → Prop} {RS : V → Rho → Hp → Prop}
noncomputable def SeqQ (X : List (Str × V) → Hp → Prop) (QS : Fl → Rho → Hp → Prop) : Fl → Rho → Hp → Prop
  | .next, ρ, H => ∃ l, X l H ∧ Rho.sat l ρ
  | .cont, ρ, H => QS .cont ρ H
  | .brk, ρ, H => QS .brk ρ H
  | .ret u, ρ, H => QS (.ret u) ρ H
theorem ExecsW.seq {st rest} (X : List (Str × V) → Hp → Prop) (h : ExecW C k env st (SeqQ X QS) RS ρ H) (h2 : ∀ l H', X l H' → ExecsW C k env rest QS RS (Rho.of l) H') : ExecsW C k env (st :: rest) QS RS ρ H := by
  refine ExecsW.cons ?_
  intro A a s S
  refine wpAny_mono (h A a s S) ?_ fun _ _ p => p
  rintro f s' ⟨fl, ρ', H', q, r, S', E⟩
  cases fl with
  | next => obtain ⟨l, x, hs⟩ := q; exact ⟨.next, Rho.of l, H', h2 l H' x, r, S'.weaken hs.le, E⟩
  | cont => exact ⟨.cont, ρ', H', q, r, S', E⟩
  | brk => exact ⟨.brk, ρ', H', q, r, S', E⟩
  | ret u => exact ⟨.ret u, ρ', H', q, r, S', E⟩
end Mine

set_option linter.unusedVariables false
namespace Mine
/- the laws' ways to make waits, with their numbers left open -/
end Mine

set_option Elab.async false
set_option linter.unusedVariables false
set_option maxRecDepth 100000
namespace Mine
open PySem PySem.W PyProof.Rows

section
variable {prog : Program} {w : World} {A : Around} {E : Value → Shared → Prop} {s : Shared}

end

variable {C : Cx} {k : Nat} {env : Env} {ρ : Rho} {H : Hp} {Q R : V → Hp → Prop}
theorem Sim.allocAt {C : Cx} {H : Hp} {s s' : Shared} {o : O} {d : Addr} (hd : s.heap.objs.size ≤ d) (S : Sim C H s) (hk : ∀ a o, s.heap.get? a = some o → s'.heap.get? a = some o) (hg : s'.gens = s.gens) (ho : s'.os = s.os)
    (hr : ORel C s'.heap (H.set d o) d o) : Sim C (H.set d o) s' ∧ Ext H s.heap (H.set d o) s'.heap := by
  have E : Ext H s.heap (H.set d o) s'.heap := by
    refine ⟨fun a ob e _ => .of (hk a ob e), fun a ob e n => ?_, fun a ob e => ⟨ob, hk a ob e⟩⟩
    unfold Hp.set
    rw [if_neg (fun q => by have := Heap.lt_size e; rw [q] at this; exact absurd this (Nat.not_lt.mpr hd))]; exact n
  refine ⟨⟨fun a o e => hk a o (S.keep a o e), hg.trans S.gens, ho.trans S.os, fun a o' e => ?_, fun a e => ?_, S.frs.keep fun L o _ _ e n _ => ⟨E.grow L o e n, hk L o e⟩⟩, E⟩
  · unfold Hp.set at e
    split at e
    · rename_i q; subst q; cases e; exact hr
    · have r := S.objs a o' e
      obtain ⟨ob', e'⟩ := r.lt
      exact r.same E.v ((hk a ob' e').trans e'.symm)
  · unfold Hp.set at e
    split at e
    · rename_i q; subst q; exact ⟨S.freshB hd, S.freshS hd⟩
    · exact S.new a e
theorem newAtAny_W {s s' : Shared} {l : List V} {xs : Array Value} {d : Addr} (hd : s.heap.objs.size ≤ d) (S : Sim C H s) (hk : ∀ b o, s.heap.get? b = some o → s'.heap.get? b = some o) (hl : s'.heap.PlainList d xs) (r : VRelL s.heap H l xs.toList) (hg : s'.gens = s.gens) (ho : s'.os = s.os)
    (h : ∀ a, H a = Option.none → Q (.ref a) (H.set a (.list l))) : Post C H s.heap VRel Q (.ref d) s' := by
  have E0 : Ext H s.heap (H.set d (.list l)) s'.heap :=
    ⟨fun a ob e _ => .of (hk a ob e), fun a ob e n => by unfold Hp.set; rw [if_neg (fun q => by have := Heap.lt_size e; rw [q] at this; exact absurd this (Nat.not_lt.mpr hd))]; exact n, fun a ob e => ⟨ob, hk a ob e⟩⟩
  obtain ⟨S', E'⟩ := S.allocAt hd hk hg ho (o := .list l) ⟨xs, hl, r.ext E0⟩
  exact ⟨_, _, h _ (S.fresh hd), S', .ref _, E'⟩
end Mine

set_option Elab.async false
set_option linter.unusedVariables false
namespace Mine
open PySem PySem.W PyProof.Rows

variable {C : Cx} {k : Nat} {env : Env} {ρ : Rho} {H : Hp} {Q R : V → Hp → Prop}

noncomputable def PartV : Option Int → V
  | none => .none
  | some i => .int i
noncomputable def PartW (C : Cx) (k : Nat) (env : Env) (e : Option Expr) (Q : Option Int → Hp → Prop) (R : V → Hp → Prop) (ρ : Rho) (H : Hp) : Prop :=
  ∀ A, Lv C k A → ∀ s, SimL C env ρ H s → wpAny C.M A (evalPart e env) (Post C H s.heap (fun h H v x => VRel h H (PartV v) x) Q) (Post C H s.heap VRel R) s
theorem PartW.none {Q : Option Int → Hp → Prop} (h : Q none H) : PartW C k env Option.none Q R ρ H := fun A a s S => wpAny_pure (Post.here h S.sim .none rfl)
theorem PartW.some {e} {Q : Option Int → Hp → Prop} (h : EvalW C k env e (fun v H' => ∃ i, v = .int i ∧ Q (Option.some i) H') R ρ H) : PartW C k env (Option.some e) Q R ρ H := fun A a s S =>
  wpAny_mono (h A a s S) (fun x s' ⟨v, H', ⟨i, e, q⟩, S', r, E⟩ => ⟨Option.some i, H', q, S', by subst e; exact r, E⟩) fun _ _ p => p
theorem part_is {h : Heap} {o : Option Int} {x : Value} (r : VRel h H (PartV o) x) : IsPart x o := by
  cases o <;> cases r
  · exact .none
  · exact .int _ _

noncomputable def pickV {α : Type} (l : List α) (lo hi : Option Int) : List α := (l.drop (lo.elim 0 (clipAt l.length))).take (hi.elim l.length (clipAt l.length) - lo.elim 0 (clipAt l.length))
theorem pickV_from {α : Type} (l : List α) (n : Nat) : pickV l (Option.some (n : Int)) Option.none = l.drop n := by
  simp only [pickV, Option.elim, clipAt_nat]
  rcases Nat.le_total n l.length with h | h
  · rw [Nat.min_eq_left h, List.take_of_length_le (by simp)]
  · rw [Nat.min_eq_right h, List.drop_of_length_le (Nat.le_refl _), List.drop_of_length_le h]; simp
theorem EvalW.sliceL {value lower upper p pos} (h : EvalW C k env value (fun v H₁ => PartW C k env lower (fun lo H₂ => PartW C k env upper (fun hi H₃ => ∃ l, lview H₃ v = Option.some l ∧ l.length ≤ 100000 ∧
      ∀ a, H₃ a = Option.none → Q (.ref a) (H₃.set a (.list (pickV l lo hi)))) R ρ H₂) R ρ H₁) R ρ H)
    (ht : ∀ o r, letTemporaryGo value o r = pure () := by intro _ _; rfl) : EvalW C k env (.Subscript value (.Slice lower upper Option.none p) pos) Q R ρ H := fun A a s S => by
  refine wpAny_Subscript_Slice list_getitem_lookup (wp_go (h A a s S) fun x v H₁ s₁ h₁ S₁ r₁ E₁ => ?_) ht
  refine wpAny_Slice ?_
  refine wp_go (h₁ A a s₁ (S.ext S₁ E₁)) (fun y lo H₂ s₂ h₂ S₂ r₂ E₂ => ?_) fun _ _ p => p.after E₁
  have E12 := E₁.trans E₂
  refine wp_go (h₂ A a s₂ (S.ext S₂ E12)) (fun z hi H₃ s₃ h₃ S₃ r₃ E₃ => ?_) fun _ _ p => p.after E12
  obtain ⟨l, hl, hn, hQ⟩ := h₃
  obtain ⟨ad, xs, rfl, hL, rl⟩ := lview_list hl S₃ (r₁.ext (E₂.trans E₃))
  have hz : xs.size = l.length := by have := rl.length; simpa using this
  refine wpAny_pure ?_
  have hk : ∀ b o, s₃.heap.get? b = Option.some o → (s₃.heap.push { cls := .type "slice", data := .fields #[y, z, .none] }).get? b = Option.some o := fun b o e => Heap.get?_push_of_some _ e
  have hL' := hL.push { cls := .type "slice", data := .fields #[y, z, .none] }
  refine ⟨Heap.IsList.typeIs (s := { s₃ with heap := s₃.heap.push { cls := .type "slice", data := .fields #[y, z, .none] } }) hL', ?_⟩
  refine wpAny_getItem_list_slice (s := { s₃ with heap := s₃.heap.push { cls := .type "slice", data := .fields #[y, z, .none] } }) hL' (Heap.IsSliceOf.new ..) (part_is (r₂.ext E₃)) (part_is r₃) .none (by simp) ?_ (by rw [hz]; exact Nat.le_trans hn (by decide))
  have fin := newAtAny_W (Q := Q) (H := H₃) (s := s₃) (s' := { s₃ with heap := (s₃.heap.push { cls := .type "slice", data := .fields #[y, z, .none] }).push { cls := .type "list", data := .seq (slicePick xs lo hi Option.none) } })
    (l := pickV l lo hi) (xs := slicePick xs lo hi Option.none) (d := (s₃.heap.push { cls := .type "slice", data := .fields #[y, z, .none] }).objs.size) (by rw [Heap.size_push]; omega) S₃
    (fun b o e => Heap.get?_push_of_some _ (hk b o e)) ⟨_, Heap.get?_push_size _ rfl⟩ (by
      rw [slicePick_plain]
      show VRelL _ _ _ ((xs.toList.drop _).take _)
      rw [hz]
      exact (rl.drop _).take _) rfl rfl hQ
  exact fin.after (E12.trans E₃)
end Mine

set_option linter.unusedVariables false
namespace Mine
open PySem PySem.W PyProof.Rows
variable {C : Cx} {k : Nat} {env : Env} {ρ : Rho} {H : Hp} {Q R : V → Hp → Prop}

noncomputable def S_cell : SpecT := fun args Q R H => ∃ (ns : List Int) (i : Int), args = [.lst (ns.map .int), .int i] ∧ 0 ≤ i ∧ ns.length ≤ 100 ∧ Q (.int (cellV ns i)) H
noncomputable def S_is_place : SpecT := fun args Q R H => ∃ (i m : Int), args = [.int i, .int m] ∧ Q (.bool (decide (0 ≤ i) && decide (i < m))) H
noncomputable def S_is_wait : SpecT := fun args Q R H => ∃ (w : Wt) (m : Nat), args = [wv w, .int m] ∧ WOk m w ∧ Q (.bool true) H
noncomputable def WsOk (W : List Wt) : Prop := 0 < W.length ∧ W.length ≤ 40 ∧ ∀ w ∈ W, WOk W.length w
noncomputable def S_need : SpecT := fun args Q R H => ∃ W : List Wt, args = [.lst (W.map wv)] ∧ WsOk W ∧ Q (.bool true) H
noncomputable def S_goes : SpecT := fun args Q R H => ∃ (b : Bool) (l : List Nat) (r : List (Option Nat)) (rv : V), args = [wv (some (b, l)), rv] ∧ lview H rv = some (r.map ov) ∧ l.length ≤ 100 ∧ (∀ x ∈ l, x < r.length) ∧ r.length ≤ 100 ∧ Q (.bool (goesB b l r)) H
noncomputable def S_freed : SpecT := fun args Q R H => ∃ W : List Wt, args = [.lst (W.map wv)] ∧ WsOk W ∧ Q (.lst ((freedL W).map ov)) H
noncomputable def stuckL (W : List Wt) : List Nat := (List.range W.length).filter fun p => ((freedL W).getD p none).isNone
noncomputable def S_stuck : SpecT := fun args Q R H => ∃ W : List Wt, args = [.lst (W.map wv)] ∧ WsOk W ∧ Q (.lst ((stuckL W).map nv)) H
theorem enum_get {W : List Wt} {i : Nat} {v : V} (h : (enumV (W.map wv))[i]? = some v) : ∃ w, W[i]? = some w ∧ w ∈ W ∧ v = .tup [.int ((i : Nat) : Int), wv w] := by
  rw [enumV, enumFrom_get, List.getElem?_map] at h
  cases hw : W[i]? with
  | none => rw [hw] at h; cases h
  | some w => rw [hw] at h; cases h; exact ⟨w, rfl, List.mem_of_getElem? hw, by simp⟩
theorem enumV_length {l : List V} : (enumV l).length = l.length := enumFrom_length

/- waits as data -/
theorem okD_of {d : PyData} (h1 : d.canLay0 = true) (h2 : d.depth ≤ 64) : okD d = true := by
  unfold okD SeqAt.shaped; simp [h1, h2]
mutual
theorem eqv_refl : ∀ d : PyData, d.canLay0 = true → PyData.eqv d d = true
  | .none, _ => rfl
  | .bool b, _ => by simp [PyData.eqv]
  | .int b, _ => by simp [PyData.eqv]
  | .str b, _ => by simp [PyData.eqv]
  | .list xs, h => by simp only [PyData.canLay0] at h; simp only [PyData.eqv]; exact eqvAll_refl xs h
  | .tuple xs, h => by simp only [PyData.canLay0] at h; simp only [PyData.eqv]; exact eqvAll_refl xs h
  | .dict _, h => by simp [PyData.canLay0] at h
theorem eqvAll_refl : ∀ d : List PyData, PyData.canLayAll0 d = true → PyData.eqvAll d d = true
  | [], _ => rfl
  | x :: xs, h => by
    simp only [PyData.canLayAll0, Bool.and_eq_true] at h
    simp only [PyData.eqvAll, eqv_refl x h.1, eqvAll_refl xs h.2]; rfl
end
end Mine

set_option Elab.async false
set_option linter.unusedVariables false
namespace Mine
open PySem PySem.W PyProof.Rows

variable {C : Cx} {k : Nat} {K : Frag} {env : Env} {ρ : Rho} {H : Hp} {Q R : V → Hp → Prop} {QS : Fl → Rho → Hp → Prop} {RS : V → Rho → Hp → Prop}

/- list methods that change the list -/
theorem listUpd {s : Shared} {a : Addr} {l l' : List V} {xs : Array Value} {n : Nat} {f : Array Value → Array Value} (S : Sim C H s) (ha : H a = some (.list l)) (ho : s.heap.get? a = some { cls := .type "list", data := .seq xs n })
    (hr : ∀ h' H', ExtV H s.heap H' h' → VRelL h' H' l' (f xs).toList) : Sim C (H.set a (.list l')) { s with heap := s.heap.update a (Obj.mapSeq f) } ∧ Ext H s.heap (H.set a (.list l')) (s.heap.update a (Obj.mapSeq f)) := by
  obtain ⟨n', e1⟩ : ∃ n', Obj.mapSeq f { cls := .type "list", data := .seq xs n } = { cls := .type "list", data := .seq (f xs) n' } := ⟨_, rfl⟩
  have hs := Heap.SameBut.update s.heap a (Obj.mapSeq f)
  have hl' : (s.heap.update a (Obj.mapSeq f)).PlainList a (f xs) := ⟨n', by rw [Heap.get?_update_self _ ho (by rw [e1]; rfl), e1]⟩
  generalize s.heap.update a (Obj.mapSeq f) = h' at hs hl'
  have hex : ∃ ob, h'.get? a = some ob := let ⟨_, e⟩ := hl'; ⟨_, e⟩
  have hne : ∀ b, H b = none → b ≠ a := fun b e q => by subst q; rw [ha] at e; cases e
  have E0 : ExtV H s.heap (H.set a (.list l')) h' := fun b ob _ _ e _ n => ⟨.of ((hs.2 b (hne b n)).trans e), by unfold Hp.set; rw [if_neg (hne b n)]; exact n⟩
  exact S.update (s' := { s with heap := h' }) (o' := .list l') ha hs hex rfl rfl ⟨_, hl', hr _ _ E0⟩

theorem MethIs.extend {a : Addr} {l : List V} (ha : H a = some (.list l)) : MethIs C H (.ref a) "extend" (.builtin "list.extend") := MethIs.list ha F.slot_list_extend F.type_list_extend
theorem MethIs.pop {a : Addr} {l : List V} (ha : H a = some (.list l)) : MethIs C H (.ref a) "pop" (.builtin "list.pop") := MethIs.list ha F.slot_list_pop F.type_list_pop
theorem MethIs.count {a : Addr} {l : List V} (ha : H a = some (.list l)) : MethIs C H (.ref a) "count" (.builtin "list.count") := MethIs.list ha F.slot_list_count F.type_list_count

theorem VRelL.eraseIdx {h : Heap} {H : Hp} : ∀ {l : List V} {xs : List Value} (i : Nat), VRelL h H l xs → VRelL h H (l.eraseIdx i) (xs.eraseIdx i)
  | _, _, i, .nil => .nil
  | _, _, 0, .cons hv hl => hl
  | _, _, i + 1, .cons hv hl => .cons hv (hl.eraseIdx i)

theorem CallW.extend {a b : Addr} {l l2 : List V} (ha : H a = some (.list l)) (hb : H b = some (.list l2)) (hn : l.length + l2.length ≤ 50000) (h : Q .none (H.set a (.list (l ++ l2)))) : CallW C k (.builtin "list.extend") [.ref a, .ref b] Q R H := fun A lv s xs S r => by
  cases r with
  | cons r1 r' => cases r' with
    | cons r2 r' =>
      cases r'; cases r1; cases r2
      obtain ⟨xs, ⟨n, ho⟩, rl⟩ := S.objs _ _ ha
      obtain ⟨ys, ⟨n2, ho2⟩, rl2⟩ := S.objs _ _ hb
      have hz : xs.size = l.length := by have := rl.length; simpa using this
      have hz2 : ys.size = l2.length := by have := rl2.length; simpa using this
      have hs := sizeLine_eq
      obtain ⟨S', E'⟩ := listUpd (l' := l ++ l2) (f := fun x => x ++ ys) S ha ho fun h' H' E => by simpa using (rl.extV E).append (rl2.extV E)
      refine call_meets F.slot_list_extend ⟨_, ho, rfl⟩ F.entry_list_extend (F.args_list_extend_2 _ _) (AutoSeq1.list_extend_list_list_0 a xs n b ys n2 ?_ (by omega) (by omega)) ⟨ho, ho2, ?_⟩
      · have : Builtin.List.listTooLong (xs.size + ys.size) = false := by
          unfold Builtin.List.listTooLong; simp; omega
        simp [this]
      · exact ⟨.none, _, h, S', .none, E'⟩
theorem seqIndex_at {i : Int} {n : Nat} (h0 : 0 ≤ i) (hi : i.toNat < n) : seqIndex? i n = some i.toNat := by
  unfold seqIndex?
  have : ¬ i < 0 := by omega
  simp [this, hi]; omega
theorem CallW.popAt {a : Addr} {l : List V} {i : Int} {u : V} (ha : H a = some (.list l)) (h0 : 0 ≤ i) (hi : i < 2 ^ 62) (hx : l[i.toNat]? = some u) (hn : l.length ≤ 50000) (h : Q u (H.set a (.list (l.eraseIdx i.toNat)))) : CallW C k (.builtin "list.pop") [.ref a, .int i] Q R H := fun A lv s xs S r => by
  cases r with
  | cons r1 r' => cases r' with
    | cons r2 r' =>
      cases r'; cases r1; cases r2
      obtain ⟨xs, ⟨n, ho⟩, rl⟩ := S.objs _ _ ha
      have hz : xs.size = l.length := by have := rl.length; simpa using this
      have hs := sizeLine_eq
      have hlt : i.toNat < l.length := (List.getElem?_eq_some_iff.mp hx).1
      obtain ⟨z, ez, rz⟩ := rl.get hx
      obtain ⟨S', E'⟩ := listUpd (l' := l.eraseIdx i.toNat) (f := fun x => x.eraseIdxIfInBounds i.toNat) S ha ho fun h' H' E => by
        have : (xs.eraseIdxIfInBounds i.toNat).toList = xs.toList.eraseIdx i.toNat := by
          unfold Array.eraseIdxIfInBounds
          have : i.toNat < xs.size := by omega
          simp [this]
        rw [this]
        exact (rl.extV E).eraseIdx _
      refine call_meets F.slot_list_pop ⟨_, ho, rfl⟩ F.entry_list_pop (F.args_list_pop_2 _ _) (MeetsSeq.list_pop_at a xs n i _ i.toNat z ?_ (seqIndex_at h0 (by omega)) (by simpa using ez) (by omega)) ⟨ho, ?_⟩
      · unfold Builtin.List.listFitsIndex; simp; omega
      · exact ⟨u, _, h, S', (rz.extV E'.v), E'⟩
/- dicts with str keys -/
/- a display with str keys -/
/- update -/
end Mine

set_option Elab.async false
set_option linter.unusedVariables false
namespace Mine
open PySem PyProof.Rows
variable {C : Cx} {H : Hp} {s : Shared} {A : Around} {env : Env} {l : List Env}

theorem funFrames_of {h : Heap} (F : FrOK C H h) (e : C.frs = some l) : h.FunFrames C.base l := by
  have : ∀ l', (∀ x ∈ l', x ∈ l) → h.FunFrames C.base l' := by
    intro l'
    induction l' with
    | nil => intro _; trivial
    | cons x r ih =>
      intro hm
      obtain ⟨q, L, o, e1, e2, e3, e4, es, ep, e5⟩ := F l e x (hm x (.head _))
      exact ⟨q, ⟨L, o, e1, e2, e4, fun vs z => by rw [e5] at z; cases z⟩, ih fun y hy => hm y (.tail _ hy)⟩
  exact this l fun _ h => h
theorem frames_mem {h : Heap} (F : FrOK C H h) (e : C.frs = some l) {b : Addr} (hb : b ∈ l.filterMap (·.frame)) : C.base.get? b = none ∧ H b = none ∧ ∃ o es ep, h.get? b = some o ∧ o.data = .dict es ep := by
  obtain ⟨x, hx, hf⟩ := List.mem_filterMap.mp hb
  obtain ⟨q, L, o, e1, e2, e3, e4, es, ep, e5⟩ := F l e x hx
  have hf : x.frame = some b := hf
  rw [e1] at hf; cases hf
  exact ⟨e2, e3, o, es, ep, e4, e5⟩

theorem Sim.slots {h₁ : Heap} (S : Sim C H s) (e : C.frs = some l) (hs : Heap.SlotsOnly (l.filterMap (·.frame)) s.heap h₁) : Sim C H { s with heap := h₁ } ∧ Ext H s.heap H h₁ := by
  have nf : ∀ b o, s.heap.get? b = some o → (∀ es ep, o.data ≠ .dict es ep) → h₁.get? b = some o := fun b o eb nd => by
    rw [hs.2.1 b fun hm => ?_]
    · exact eb
    · obtain ⟨_, _, o', es, ep, e', d⟩ := frames_mem S.frs e hm
      rw [eb] at e'; cases e'; exact nd _ _ d
  have up : ∀ b o, s.heap.get? b = some o → UpS o h₁ b := fun b o eb => by
    by_cases q : ∃ es ep, o.data = .dict es ep
    · obtain ⟨es, ep, d⟩ := q
      obtain ⟨sl, e'⟩ := hs.2.2 b o eb
      exact ⟨sl, e', fun n => absurd d (n _ _)⟩
    · exact .of (nf b o eb fun es ep d => q ⟨es, ep, d⟩)
  have E : Ext H s.heap H h₁ := ⟨fun b o eb _ => up b o eb, fun _ _ _ n => n, fun b o eb => let ⟨_, e', _⟩ := up b o eb; ⟨_, e'⟩⟩
  refine ⟨⟨fun b o eb => ?_, S.gens, S.os, fun b o eb => ?_, S.new, ?_⟩, E⟩
  · rw [show h₁.get? b = s.heap.get? b from hs.2.1 b fun hm => by rw [(frames_mem S.frs e hm).1] at eb; cases eb]
    exact S.keep b o eb
  · exact (S.objs b o eb).same E.v (hs.2.1 b fun hm => by rw [(frames_mem S.frs e hm).2.1] at eb; cases eb)
  · refine S.frs.same fun L o es ep eL n d => ⟨n, ?_⟩
    obtain ⟨sl, e'⟩ := hs.2.2 L o eL
    exact ⟨_, es, ep, e', d⟩

theorem exc_set {T : Option Addr} {c e : Addr} {d : Option Addr} {h h' : Heap} {H H' : Hp} {x : Option Addr} (r : ORel C h H e (.exc c d T)) (he : h'.get? e = (h.get? e).map (Obj.mapFields (·.setIfInBounds 1 (x.elim .none .ref)))) : ORel C h' H' e (.exc c d x) := by
  obtain ⟨o, vs, e1, e2, e3, e4, e5, e6⟩ := r
  rw [e1, Option.map_some] at he
  obtain ⟨c0, d0, dt, sl⟩ := o
  dsimp only at e2 e3 e4
  subst e4
  exact ⟨_, _, he, e2, e3, rfl, by simpa using e5, by simp [show 1 < vs.size by omega]⟩

theorem note_W {L e c : Addr} {d T0 : Option Addr} {Q : Unit → Shared → Prop} {E : Value → Shared → Prop} (hA : A.frames = some (env :: l)) (hC : C.frs = some (env :: l)) (hf : env.frame = some L) (S : Sim C H s) (he : H e = some (.exc c d T0))
    (hT : ∀ T, T0 = some T → H T = some (.tb none))
    (h : ∀ s' T', H T' = none → Sim C ((H.set T' (.tb (some L))).set e (.exc c d (some T'))) s' → Ext H s.heap ((H.set T' (.tb (some L))).set e (.exc c d (some T'))) s'.heap → Q () s') : wpAny C.M A (noteFrame (.ref e) env) Q E s := by
  obtain ⟨oe, vs, e1, e2, e3, e4, e5, e6⟩ := S.objs _ _ he
  have core : ∀ (s : Shared) (head : Value) (hn : Bool), Sim C H s → (∀ s' T', H T' = none → Sim C ((H.set T' (.tb (some L))).set e (.exc c d (some T'))) s' → Ext H s.heap ((H.set T' (.tb (some L))).set e (.exc c d (some T'))) s'.heap → Q () s') →
      wpAny C.M A (do let a ← frameOf env; let pl ← entryPlaceOf L hn; let b ← EntryCells.newEntry head a .none (rawInt L) .none pl; setField (.ref e) 1 b) Q E s := by
    intro s head hn S h
    obtain ⟨oe, vs, e1, e2, e3, e4, e5, e6⟩ := S.objs _ _ he
    refine wpAny_bind (wpAny_frameOf_fun hA (funFrames_of S.frs hC) hf fun h₁ hs₁ => ?_)
    obtain ⟨S1, E1⟩ := S.slots hC hs₁
    refine wpAny_bind (wpAny_entryPlaceOf fun pl hpl => ?_)
    unfold EntryCells.newEntry newFields
    refine wpAny_bind (wpAny_newObj_type ?_ (hpl.sizeOk5 _ _ _ _ _))
    have he1 : h₁.get? e = some oe := (hs₁.2.1 e fun hm => by rw [(frames_mem S.frs hC hm).2.1] at he; cases he).trans e1
    have hk : ∀ b o, h₁.get? b = some o → (h₁.push { cls := .type "traceback", dict := none, data := .fields ([head, .ref L, .none, rawInt L, .none] ++ (if pl.isEmpty then List.replicate 6 Value.none else pl)).toArray }).get? b = some o := fun b o eb => Heap.get?_push_of_some _ eb
    obtain ⟨S2, E2⟩ := S1.alloc (s' := { s with heap := h₁.push { cls := .type "traceback", dict := none, data := .fields ([head, .ref L, .none, rawInt L, .none] ++ (if pl.isEmpty then List.replicate 6 Value.none else pl)).toArray } }) (o := .tb (some L)) hk rfl rfl
      ⟨_, _, Heap.get?_push_size _ rfl, rfl, by first | (simp; done) | (rcases hpl with rfl | ⟨_, _, _, _, _, _, _, rfl⟩ <;> simp)⟩
    have hfr : H h₁.objs.size = none := S1.fresh (Nat.le_refl _)
    have hne : e ≠ h₁.objs.size := Nat.ne_of_lt (Heap.lt_size he1)
    have he2 : (H.set h₁.objs.size (.tb (some L))) e = some (.exc c d T0) := by unfold Hp.set; rw [if_neg hne]; exact he
    have heh := hk _ _ he1
    refine wpAny_setField heh e4 (by omega) ?_
    have hs2 : Heap.SameBut e (h₁.push { cls := .type "traceback", dict := none, data := .fields ([head, .ref L, .none, rawInt L, .none] ++ (if pl.isEmpty then List.replicate 6 Value.none else pl)).toArray }) ((h₁.push { cls := .type "traceback", dict := none, data := .fields ([head, .ref L, .none, rawInt L, .none] ++ (if pl.isEmpty then List.replicate 6 Value.none else pl)).toArray }).update e (Obj.mapFields (·.setIfInBounds 1 (Value.ref h₁.objs.size)))) := .update ..
    have hd3 := Obj.data_mapFields e4 (·.setIfInBounds 1 (Value.ref h₁.objs.size))
    have he3 := Heap.get?_update_self (Obj.mapFields (·.setIfInBounds 1 (Value.ref h₁.objs.size))) heh (Obj.isFreed_of_fields hd3)
    obtain ⟨S3, E3⟩ := S2.update (s' := { s with heap := (h₁.push { cls := .type "traceback", dict := none, data := .fields ([head, .ref L, .none, rawInt L, .none] ++ (if pl.isEmpty then List.replicate 6 Value.none else pl)).toArray }).update e (Obj.mapFields (·.setIfInBounds 1 (Value.ref h₁.objs.size))) }) (o' := .exc c d (some h₁.objs.size)) he2 hs2 ⟨_, he3⟩ rfl rfl
      (exc_set (x := some h₁.objs.size) (S2.objs _ _ he2) (by rw [heh, he3]; rfl))
    exact h _ h₁.objs.size hfr S3 ((E1.trans E2).trans E3)
  cases T0 with
  | none =>
    have e6 : vs[1]? = some .none := e6
    unfold noteFrame
    simp only [hf]
    refine wpAny_bind (wpAny_field e1 e4 e6 ?_)
    rw [if_neg (by decide)]
    exact core s _ _ S h
  | some T =>
    have e6 : vs[1]? = some (.ref T) := e6
    have hTb := hT T rfl
    obtain ⟨oT, ts, t1, t2, t3⟩ := S.objs _ _ hTb
    have t3 : ts[3]? = some .none := t3
    unfold noteFrame
    simp only [hf]
    refine wpAny_bind (wpAny_field e1 e4 e6 ?_)
    rw [if_pos (show (Value.ref T != Value.none) = true from by simp)]
    refine wpAny_bind (wpAny_field t1 t2 t3 ?_)
    rw [if_neg (show ¬ ((Value.none == rawInt L) = true) from by simp [rawInt])]
    refine wpAny_bind (wpAny_setField t1 t2 (Array.getElem?_eq_some_iff.mp t3).1 ?_)
    have hd3 := Obj.data_mapFields t2 (·.setIfInBounds 3 Value.none)
    have ht3 := Heap.get?_update_self (Obj.mapFields (·.setIfInBounds 3 Value.none)) t1 (Obj.isFreed_of_fields hd3)
    obtain ⟨S1, E1⟩ := S.update (s' := { s with heap := s.heap.update T (Obj.mapFields (·.setIfInBounds 3 Value.none)) }) (o' := .tb none) hTb (.update ..) ⟨_, ht3⟩ rfl rfl
      ⟨_, _, ht3, hd3, by simp [(Array.getElem?_eq_some_iff.mp t3).1]⟩
    have hset : H.set T (.tb none) = H := by
      funext b; unfold Hp.set; split
      · rename_i q; rw [q, hTb]
      · rfl
    rw [hset] at S1 E1
    exact core _ _ _ S1 fun s' T' n S' E' => h s' T' n S' (E1.trans E')
theorem noteAgain_W {L e c T : Addr} {d : Option Addr} {Q : Unit → Shared → Prop} {E : Value → Shared → Prop} (hf : env.frame = some L) (S : Sim C H s) (he : H e = some (.exc c d (some T))) (hT : H T = some (.tb (some L))) (h : Q () s) : wpAny C.M A (noteFrame (.ref e) env) Q E s := by
  obtain ⟨oe, vs, e1, e2, e3, e4, e5, e6⟩ := S.objs _ _ he
  obtain ⟨oT, ts, t1, t2, t3⟩ := S.objs _ _ hT
  exact wpAny_noteFrame_inFlight hf e1 e4 e6 t1 t2 t3 h
theorem land_W {e c T : Addr} {d fl : Option Addr} {Q : Unit → Shared → Prop} {E : Value → Shared → Prop} (S : Sim C H s) (he : H e = some (.exc c d (some T))) (hT : H T = some (.tb fl))
    (h : ∀ s', Sim C (H.set T (.tb none)) s' → Ext H s.heap (H.set T (.tb none)) s'.heap → Q () s') : wpAny C.M A (setFlight (.ref e) none) Q E s := by
  obtain ⟨oe, vs, e1, e2, e3, e4, e5, e6⟩ := S.objs _ _ he
  obtain ⟨oT, ts, t1, t2, t3⟩ := S.objs _ _ hT
  have hsz := (Array.getElem?_eq_some_iff.mp t3).1
  refine wpAny_setFlight_none e1 e4 e6 t1 t2 hsz ?_
  have hd3 := Obj.data_mapFields t2 (·.setIfInBounds 3 Value.none)
  have ht3 := Heap.get?_update_self (Obj.mapFields (·.setIfInBounds 3 Value.none)) t1 (Obj.isFreed_of_fields hd3)
  obtain ⟨S1, E1⟩ := S.update (s' := { s with heap := s.heap.update T (Obj.mapFields (·.setIfInBounds 3 Value.none)) }) (o' := .tb none) hT (.update ..) ⟨_, ht3⟩ rfl rfl ⟨_, _, ht3, hd3, by simp [hsz]⟩
  exact h _ S1 E1
end Mine

set_option Elab.async false
set_option linter.unusedVariables false
namespace Mine
open PySem PySem.W PyProof.Rows
variable {C : Cx} {H : Hp} {s : Shared} {A : Around} {env : Env} {l : List Env} {k : Nat} {K : Frag}

theorem leave_W {L e c : Addr} {d T0 : Option Addr} {Q : Unit → Shared → Prop} {E : Value → Shared → Prop} (hA : A.frames = some (env :: l)) (hC : C.frs = some (env :: l)) (hf : env.frame = some L) (S : Sim C H s) (he : H e = some (.exc c d T0))
    (hT : T0 = none ∨ ∃ T fl, T0 = some T ∧ H T = some (.tb fl) ∧ (fl = none ∨ fl = some L))
    (h : ∀ s' H' T', H' e = some (.exc c d (some T')) → H' T' = some (.tb none) → (∀ b, b ≠ e → (∀ fl, H b ≠ some (.tb fl)) → H b ≠ none → H' b = H b) → Sim C H' s' → Ext H s.heap H' s'.heap → Q () s') : wpAny C.M A (leaving env (.ref e)) Q E s := by
  have new : (∀ T, T0 = some T → H T = some (.tb none)) → wpAny C.M A (leaving env (.ref e)) Q E s := fun hT => by
    unfold leaving
    refine wpAny_bind (note_W hA hC hf S he hT fun s' T' n S' E' => ?_)
    have hne : T' ≠ e := fun q => by rw [q, he] at n; cases n
    have h1 : ((H.set T' (.tb (some L))).set e (.exc c d (some T'))) e = some (.exc c d (some T')) := by simp [Hp.set]
    have h2 : ((H.set T' (.tb (some L))).set e (.exc c d (some T'))) T' = some (.tb (some L)) := by simp [Hp.set, hne]
    refine land_W S' h1 h2 fun s'' S'' E'' => ?_
    refine h s'' _ T' ?_ ?_ ?_ S'' (E'.trans E'')
    · simp [Hp.set, hne.symm]
    · simp [Hp.set]
    · intro b hb nt nn
      have hbT : b ≠ T' := fun q => by rw [q, n] at nn; exact nn rfl
      simp [Hp.set, hb, hbT]
  rcases hT with rfl | ⟨T, fl, rfl, hTb, rfl | rfl⟩
  · exact new fun T q => by cases q
  · exact new fun T' q => by cases q; exact hTb
  · unfold leaving
    refine wpAny_bind (noteAgain_W hf S he hTb ?_)
    have hne : e ≠ T := fun q => by rw [q, hTb] at he; cases he
    refine land_W S he hTb fun s'' S'' E'' => ?_
    refine h s'' _ T ?_ ?_ ?_ S'' E''
    · simp [Hp.set, hne]; exact he
    · simp [Hp.set]
    · intro b hb nt nn
      have hbT : b ≠ T := fun q => nt _ (q ▸ hTb)
      simp [Hp.set, hbT]

noncomputable def XR (L : Addr) (R : V → Hp → Prop) : V → Hp → Prop := fun v H => ∃ e c d T0, v = .ref e ∧ H e = some (.exc c d T0) ∧ (T0 = none ∨ ∃ T fl, T0 = some T ∧ H T = some (.tb fl) ∧ (fl = none ∨ fl = some L)) ∧
  ∀ H' T', H' e = some (.exc c d (some T')) → H' T' = some (.tb none) → (∀ b, b ≠ e → (∀ fl, H b ≠ some (.tb fl)) → H b ≠ none → H' b = H b) → R (.ref e) H'

theorem FnOK.of_defX {a : Addr} {fd : FuncData} {names : List Str} {body : List Stmt} {S : SpecT} (D : FnDef C a fd names body) (hC : C.frs = some l)
    (h : ∀ args Q R H, S args Q R H → args.length = names.length ∧ ∀ L, ExecsW (C.push (callEnvC fd L a)) k (callEnvC fd L a) body (RetQ Q) (fun v _ H' => XR L R v H') (bindRho (fun _ => none) names args) H) :
    FnOK C (k + 1) (.ref a) S := by
  intro A lv s H args xs Q R Sm rel hs
  obtain ⟨hlen, hb⟩ := h args Q R H hs
  obtain ⟨o, ho, hd⟩ := D.obj
  have hxl : xs.length = names.length := rel.length.trans hlen
  have hkinds : ∀ x ∈ names.zip xs, fd.scope.names.lookup x.1 = some .local ∨ (fd.scope.names.lookup x.1 = some .cell ∧ ((cellsFrom (s.heap.objs.size + 1) fd.scope.names []).lookup x.1).isSome = true) := by
    intro x hx
    rcases D.kinds x.1 (List.of_mem_zip (a := x.1) (b := x.2) hx).1 with q | q
    · exact .inl q
    · exact .inr ⟨q, cellsFrom_isSome _ _ _ _ (.inl q)⟩
  refine codeAny_call_cells (by have := lv.depth; omega) (Sm.keep _ _ ho) hd (D.limit.keeps Sm.keep) (D.code.keeps Sm.keep) D.body (D.bind xs hxl) D.closure hkinds (fun s₁ X => ?_) D.co D.gen D.kind
  have hkeep := X.toInCall.keep
  obtain ⟨h₁, tk, e₁, _⟩ := X.done
  have E₁ : Ext H s.heap H s₁.heap := Ext.grown hkeep
  have S₁ : Sim C H s₁ := Sm.grown hkeep (by rw [e₁]) (by rw [e₁])
  have EO : EnvOf fd (callEnvC fd s.heap.objs.size a) := ⟨rfl, fun x hx => cellsFrom_isSome _ _ _ _ (.inl hx)⟩
  obtain ⟨oL, esL, epL, eL, dL, _⟩ := X.toInCall.ns
  have S₂ : Sim (C.push (callEnvC fd s.heap.objs.size a)) H s₁ := S₁.push (by show fd.scope.kind ≠ _; rw [D.kind]; decide) rfl (Sm.freshB (Nat.le_refl _)) (Sm.fresh (Nat.le_refl _)) eL dL
  have SL : SimL (C.push (callEnvC fd s.heap.objs.size a)) (callEnvC fd s.heap.objs.size a) (bindRho (fun _ => none) names args) H s₁ := by
    refine ⟨S₂, D.kind, D.globals, D.builtins, _, _, ⟨X.toInCall.ns, X.cell, Sm.fresh (Nat.le_refl _), fun n c e => Sm.fresh ?_, Sm.freshB (Nat.le_refl _), fun n c e => Sm.freshB ?_, fun n n' c e e' => name_of_addr X.apart (mem_of_lookup e) (mem_of_lookup e')⟩, ?_⟩
    · exact Nat.le_of_lt (X.above n c (mem_of_lookup e))
    · exact Nat.le_of_lt (X.above n c (mem_of_lookup e))
    · refine bind_rel names args xs (rel.ext E₁) _ _ _ (fun n hn => ?_) (fun x v e => by cases e)
      rcases D.kinds n hn with q | q
      · exact .inl q
      · exact .inr ⟨q, EO.cells n q⟩
  have hfr : (A.deeper (callEnvC fd s.heap.objs.size a)).frames = some (callEnvC fd s.heap.objs.size a :: l) := Around.frames_deeper (lv.frames l hC)
  have hCp : (C.push (callEnvC fd s.heap.objs.size a)).frs = some (callEnvC fd s.heap.objs.size a :: l) := by show C.frs.map _ = _; rw [hC]; rfl
  have lv' : Lv (C.push (callEnvC fd s.heap.objs.size a)) k (A.deeper (callEnvC fd s.heap.objs.size a)) := ⟨fun e => lv.handled e, by have := lv.depth; show A.depth + 1 + 2 * k + 100 < _; omega, by have := lv.units; show A.units + 3 + 40 * k + 100 < _; omega, fun l' e => by
    rw [hCp] at e; cases e; exact hfr⟩
  have back : ∀ {H' : Hp} {h' : Heap}, ExtF (callEnvC fd s.heap.objs.size a) H s₁.heap H' h' → Ext H s.heap H' h' := fun {H' h'} E' => by
    refine ⟨fun b ob e n => E'.keep b ob (hkeep b ob e) n ?_ ?_, fun b ob e n => E'.grow b ob (hkeep b ob e) n, fun b ob e => E'.live b ob (hkeep b ob e)⟩
    · exact Nat.ne_of_lt (Heap.lt_size e)
    · intro n' e'
      have h1 := X.above n' b (mem_of_lookup e')
      have h2 := Heap.lt_size e
      exact absurd (Nat.lt_trans (show s.heap.objs.size < b from h1) h2) (Nat.lt_irrefl _)
  refine wpAny_mono (hb _ _ lv' s₁ SL) ?_ ?_
  · rintro f s' ⟨fl, ρ', H', ⟨v', H'', fz, q⟩, r, S', E'⟩
    have E'' := back E'
    have rv := r.val
    obtain ⟨S'', r''⟩ := fz.2 C s' _ S'.sim.pop rv
    exact ⟨v', H'', q, S'', r'', ⟨E''.keep, fun b ob e n => fz.1 b (E''.grow b ob e n), E''.live⟩⟩
  · rintro e s' ⟨v, ρ', H', ⟨ex, c, d, T0, rfl, hex, hT, hR⟩, rv, S', E'⟩
    cases rv
    have E'' := back E'
    refine leave_W (C := C.push (callEnvC fd s.heap.objs.size a)) hfr hCp rfl S'.sim hex hT fun s'' H'' T' e1 e2 e3 S'' E3 => ?_
    exact ⟨.ref ex, H'', hR H'' T' e1 e2 e3, S''.pop, .ref _, E''.trans E3⟩
end Mine

set_option Elab.async false
set_option maxRecDepth 100000
set_option linter.unusedVariables false
namespace Mine
open PySem PySem.W PyProof.Rows

section
variable {prog : Program} {w : World} {A : Around} {E : Value → Shared → Prop} {h : Heap} {g : Array GenState} {d : Drawn} {t : Nat} {os : OsState}
variable {nm q : Str} {C N : Addr} {bs bm bmB : List Value} {hdct : Bool} {sn : List Str} {sub : List Value} {ab : Bool} {col : Option Bool} {dd : Option Addr} {k0 k1 k2 k3 k5 : Option Value} {B newId initId : String}

theorem type_call_initT (F : ExcBaseFacts B newId initId bmB) (T : OwnTail h bmB bm) {mN : Str → Option Value} {rest : List Value} {fI : Addr} {oI : Obj} {Q : Fin → Shared → Prop}
    (hC : h.get? C = some (excClassObj nm q C N bs bm hdct sn sub ab col dd k0 k1 k2 k3 k5 newId)) (hn : h.Ns N mN) (hi : mN "__init__" = some (.ref fI))
    (hfI : h.get? fI = some oI) (hfc : oI.cls = .type "function")
    (hq : ∀ h' e, h.objs.size ≤ e → Heap.MadeExcOf h h' e (.ref C) rest → wpAny (model prog w) A (call (.ref fI) (.ref e :: rest)) (fun r s' => r = .none ∧ Q (.done (.ret (.ref e))) s') E ⟨h', g, d, t, os⟩) (hrest : rest.length ≤ sizeLine) :
    wpAny (model prog w) A (Builtin.«type.__call__» ⟨.ref C :: rest, []⟩) Q E ⟨h, g, d, t, os⟩ := by
  repeat (first | with_reducible refine wpAny_loadPart_at hC ?_ | with_reducible refine wpAny_madeBy_exc hC ?_ | wp_step)
  refine codeAny_call_builtin_code (Code.quiet_builtin _ F.quiet) (wpAny_check_new_subT F T hC ?_)
  refine codeAny_exc_new_subT F T hC ?_ hrest
  show wpAny _ _ _ _ _ _
  have up : ∀ b o, h.get? b = some o → ((h.push { cls := .type "tuple", data := .seq rest.toArray }).push { cls := .ref C, data := .fields #[.ref h.objs.size, .none, .none, .none, .bool false, .none] }).get? b = some o :=
    fun b o e => Heap.get?_push_of_some _ (Heap.get?_push_of_some _ e)
  have hC₁ := up _ _ hC
  have hfI₁ := up _ _ hfI
  have hn₁ : ((h.push { cls := .type "tuple", data := .seq rest.toArray }).push { cls := .ref C, data := .fields #[.ref h.objs.size, .none, .none, .none, .bool false, .none] }).Ns N mN :=
    let ⟨o, es, ep, e, r⟩ := hn; ⟨o, es, ep, up _ _ e, r⟩
  have hget : ((h.push { cls := .type "tuple", data := .seq rest.toArray }).push
      { cls := .ref C, data := .fields #[.ref h.objs.size, .none, .none, .none, .bool false, .none] }).get? (h.objs.size + 1) = some
      { cls := .ref C, data := .fields #[.ref h.objs.size, .none, .none, .none, .bool false, .none] } := by heap_get
  have hcC : (Value.ref C :: bm).contains (.ref C) = true := by simp
  have T₁ := T.keeps up
  unfold isInstance
  repeat (first | with_reducible refine wpAny_loadPart_at hget ?_ | (with_reducible refine wpAny_isSubtype_exc hC₁ ?_; rw [hcC]) | wp_step)
  show wpAny _ _ (typeLookup (.ref C) _) _ _ _
  refine wpAny_typeLookup_tail hC₁ hn₁ T₁ F.mroIs F.init.lookup ?_
  rw [hi]
  refine wpAny_holding (wpAny_bind ?_)
  unfold bindSpecial
  refine wpAny_bind (wpAny_typeOf (T := "function") ⟨_, hfI₁, hfc⟩ ?_)
  rw [if_pos (by decide)]
  refine wpAny_pure (wpAny_bind (wpAny_mono (hq _ (h.objs.size + 1) (Nat.le_succ _) ⟨up, Heap.get?_none_of_le (Nat.le_succ _), h.objs.size, hget, Heap.get?_none_of_le (Nat.le_refl _), ?_⟩) (fun r s' hr => ?_) fun _ _ x => x))
  · exact Heap.get?_push_of_some _ (Heap.get?_push_at rfl rfl)
  · obtain ⟨rfl, hQ⟩ := hr
    wp_walk
    exact hQ
theorem call_initT (F : ExcBaseFacts B newId initId bmB) (T : OwnTail h bmB bm) {mN : Str → Option Value} {rest : List Value} {fI : Addr} {oI : Obj} {Q : Value → Shared → Prop}
    (hC : h.get? C = some (excClassObj nm q C N bs bm hdct sn sub ab col dd k0 k1 k2 k3 k5 newId)) (hn : h.Ns N mN) (hi : mN "__init__" = some (.ref fI))
    (hfI : h.get? fI = some oI) (hfc : oI.cls = .type "function")
    (hq : ∀ h' e, h.objs.size ≤ e → Heap.MadeExcOf h h' e (.ref C) rest →
      wpAny (model prog w) (A.under (.builtin "type.__call__" ⟨.ref C :: rest, []⟩)) (call (.ref fI) (.ref e :: rest)) (fun r s' => r = .none ∧ Q (.ref e) s') E ⟨h', g, d, t, os⟩) (hrest : rest.length ≤ sizeLine) :
    wpAny (model prog w) A (call (.ref C) rest) Q E ⟨h, g, d, t, os⟩ := by
  have f1 := tc_lookup
  have f2 := tc_bind (.ref C)
  have hT : (⟨h, g, d, t, os⟩ : Shared).TypeIs (.ref C) "type" := ⟨_, hC, rfl⟩
  refine wpAny_call (codeAny_of_tree ?_)
  show wpAny _ _ (callAny (.ref C) _) _ _ _
  repeat (any_goals (first | assumption | with_reducible refine wpAny_loadPart_at hC ?_ | wp_step))
  refine ⟨rfl, ?_⟩
  refine codeAny_call_builtin_at (Code.quiet_builtin _ (by decide +kernel)) entry_typeCall (wpAny_check_type_call_sub hC (type_call_initT F T hC hn hi hfI hfc (fun h' e hz hm => ?_) hrest))
  exact hq h' e hz hm
end
end Mine

set_option Elab.async false
set_option maxRecDepth 100000
set_option linter.unusedVariables false
namespace Mine
open PySem PySem.W PyProof.Rows
variable {C : Cx} {k : Nat} {K : Frag} {env : Env} {ρ : Rho} {H : Hp} {Q R : V → Hp → Prop}

structure ExcCls (C : Cx) (c : Addr) : Prop where
  tail : ∃ nm q N bs bm hdct sn sub ab col dd k0 k1 k2 k3 k5, C.base.get? c = some (excClassObj nm q c N bs bm hdct sn sub ab col dd k0 k1 k2 k3 k5 "ValueError.__new__") ∧ OwnTail C.base [.type "ValueError", .type "Exception", .type "BaseException", .type "object"] bm
theorem CallW.excInit {c e : Addr} {d T : Option Addr} {v : V} (hc : ExcCls C c) (he : H e = some (.exc c d T)) (h : Q .none H) : CallW C k (.builtin "ValueError.__init__") [.ref e, v] Q R H := fun A lv s xs S r => by
  cases r with
  | cons r1 r' => cases r' with
    | cons r2 r' =>
      cases r'; cases r1
      rename_i x
      obtain ⟨nm, q, N, bs, bm, hdct, sn, sub, ab, col, dd, k0, k1, k2, k3, k5, hC, hT⟩ := hc.tail
      obtain ⟨oe, vs, e1, e2, e3, e4, e5, e6⟩ := S.objs _ _ he
      obtain ⟨hp, g, dr, tk, os⟩ := s
      have F := PySem.F.excBase_ValueError
      have T₁ := hT.keeps S.keep
      have hC₁ := S.keep _ _ hC
      refine wpAny_call (codeAny_call_builtin F.init.plain F.initEntry (wpAny_check_init_subT F T₁ hC₁ e1 e2 ?_))
      dsimp only
      unfold Builtin.«BaseException.__init__»
      dsimp only
      have h0 : ∃ y, vs[0]? = some y := ⟨_, Array.getElem?_eq_getElem (show 0 < vs.size by omega)⟩
      obtain ⟨y, h0⟩ := h0
      have hk : ∀ b o, hp.get? b = some o → (hp.push { cls := .type "tuple", data := .seq [x].toArray }).get? b = some o := fun b o eb => Heap.get?_push_of_some _ eb
      rw [if_neg (by decide)]
      refine wpAny_bind ?_
      unfold newTuple
      refine wpAny_newObj_type ?_ (by have := sizeLine_eq; show [x].toArray.size ≤ sizeLine; simp; omega)
      have e1' := hk _ _ e1
      have S1 : Sim C H ⟨hp.push { cls := .type "tuple", data := .seq [x].toArray }, g, dr, tk, os⟩ := S.grown (s' := ⟨hp.push { cls := .type "tuple", data := .seq [x].toArray }, g, dr, tk, os⟩) hk rfl rfl
      refine wpAny_bind ?_
      unfold Builtin.BaseException.bexcPut
      refine wpAny_bind (wpAny_field e1' e4 h0 ?_)
      refine wpAny_bind (wpAny_setField e1' e4 (by omega) ?_)
      have hd3 := Obj.data_mapFields e4 (·.setIfInBounds 0 (Value.ref hp.objs.size))
      have he3 := Heap.get?_update_self (Obj.mapFields (·.setIfInBounds 0 (Value.ref hp.objs.size))) e1' (Obj.isFreed_of_fields hd3)
      obtain ⟨S2, E2⟩ := S1.update (s' := ⟨(hp.push { cls := .type "tuple", data := .seq [x].toArray }).update e (Obj.mapFields (·.setIfInBounds 0 (Value.ref hp.objs.size))), g, dr, tk, os⟩) (o' := .exc c d T) he (.update ..) ⟨_, he3⟩ rfl rfl
        ⟨_, _, he3, by rw [Obj.cls_mapFields]; exact e2, by obtain ⟨c0, d0, dt, sl⟩ := oe; dsimp only at e4; subst e4; exact e3, hd3, by simpa using e5, by rw [Array.getElem?_setIfInBounds_ne (by decide)]; exact e6⟩
      have hset : H.set e (.exc c d T) = H := by
        funext b; unfold Hp.set; split
        · rename_i z; rw [z, he]
        · rfl
      rw [hset] at S2 E2
      have fin : Post C H hp VRel Q Value.none ⟨(hp.push { cls := .type "tuple", data := .seq [x].toArray }).update e (Obj.mapFields (·.setIfInBounds 0 (Value.ref hp.objs.size))), g, dr, tk, os⟩ := ⟨.none, H, h, S2, .none, (Ext.grown hk).trans E2⟩
      cases y with
      | ref b => exact wpAny_letGo (wpAny_pure fin)
      | _ => exact wpAny_pure (wpAny_pure fin)
end Mine

set_option Elab.async false
set_option maxRecDepth 100000
set_option linter.unusedVariables false
namespace Mine
open PySem PySem.W PyProof.Rows
variable {C : Cx} {k : Nat} {K : Frag} {env : Env} {ρ : Rho} {H : Hp} {Q R : V → Hp → Prop}

noncomputable def isRefV : Value → Bool
  | .ref _ => true
  | _ => false
noncomputable def excTail : List Value := [.type "ValueError", .type "Exception", .type "BaseException", .type "object"]
noncomputable def excMro (l : List Value) : Bool := (l.take (l.length - 4)).all isRefV && l.drop (l.length - 4) == excTail
theorem refuse_tail (self : Value) : refuseLoop self "__setattr__" [.type "ValueError", .type "Exception", .type "BaseException", .type "object"] = pure () := by
  kernel_rfl
theorem refs_of : ∀ {l : List Value}, l.all isRefV = true → ∃ rs : List Addr, l = rs.map Value.ref
  | [], _ => ⟨[], rfl⟩
  | v :: l, h => by
    rw [List.all_cons, Bool.and_eq_true] at h
    obtain ⟨rs, e⟩ := refs_of h.2
    cases v with
    | ref a => exact ⟨a :: rs, by rw [e]; rfl⟩
    | _ => exact absurd h.1 (by simp [isRefV])
theorem excMro_tail {l : List Value} (e : excMro l = true) : ∃ rs : List Addr, l = rs.map Value.ref ++ [.type "ValueError", .type "Exception", .type "BaseException", .type "object"] := by
  unfold excMro at e
  rw [Bool.and_eq_true] at e
  obtain ⟨rs, h1⟩ := refs_of e.1
  have h2 : l.drop (l.length - 4) = excTail := beq_iff_eq.mp e.2
  exact ⟨rs, by rw [← h1, ← show excTail = [.type "ValueError", .type "Exception", .type "BaseException", .type "object"] from rfl, ← h2, List.take_append_drop]⟩
theorem refuse_exc (self : Value) {l : List Value} (e : excMro l = true) : refuseLoop self "__setattr__" l = pure () := by
  obtain ⟨rs, rfl⟩ := excMro_tail e
  clear e
  induction rs with
  | nil => exact refuse_tail self
  | cons a r ih => rw [List.map_cons, List.cons_append, refuseLoop_ref]; exact ih
structure ExcOk (K : Frag) (c : Addr) : Prop where
  get : findIn K (.ref c) "__getattribute__" = some (some (.builtin "BaseException.__getattribute__"))
  set : findIn K (.ref c) "__setattr__" = some (some (.builtin "object.__setattr__"))
  hook : findIn K (.ref c) "__getattr__" = some none
  mro : (clsIn K c).any (fun cd => cd.hasDict && excMro cd.mro) = true
section
variable {prog : Program} {w : World} {A : Around} {R : Result → Shared → Prop} {s : Shared} {x c : Addr}
theorem osa_exc {ox : Obj} {od : Option Obj} {name : Str} {tk : Tok} {v : Value} (X : K.In s.heap) (I : InstAt s.heap x ox c od) (hp : (clsIn K c).any (fun cd => cd.hasDict && excMro cd.mro) = true) (ht : findIn K (.ref c) name = some none)
    (h : wpAny (model prog w) A.in1 (Builtin.ObjectAttr.storeInOwnDict (.ref x) (.ref c) (.str name tk) name v false)
      (fun fin s' => match fin with | Fin.done f => R (.ok f) s' | Fin.again c' => c'.quiet = true ∧ codeAny (model prog w) A c' R s') (fun e s' => R (.error e) s') s) :
    codeAny (model prog w) A (.call (.builtin "object.__setattr__") ⟨[.ref x, .str name tk, v], []⟩) R s := by
  have SF := PySem.F.store_object
  obtain ⟨cd, hc, ho⟩ := any_some hp
  simp only [Bool.and_eq_true] at ho
  obtain ⟨hd, ho⟩ := ho
  obtain ⟨rs, hm0⟩ := excMro_tail ho
  have ne : cd.mro.isEmpty = false := by rw [hm0]; cases rs <;> rfl
  have has : cd.mro.contains (.type "object") = true := by rw [hm0]; simp
  have sub : Looks (model prog w) s.heap (isInstance (.ref x) (.type "object")) true := I.type.andThen (looks_mroIn X (by unfold mroIn; rw [hc, Option.bind_some, if_neg (by rw [ne]; decide), has]))
  refine codeAny_call_builtin SF.slot.plain SF.entry (@check_slot (model prog w) _ _ s "object.__setattr__" "object" "__setattr__" (.ref x) [.str name tk, v] [] _ SF.kind SF.split sub (SF.args (.ref x) (.str name tk) v) ?_)
  have hm : Looks (model prog w) s.heap (mroOf (.ref c)) cd.mro := (looks_clsIn X hc).andThen .now
  rw [osa_eq, refuse_eq]
  refine wpAny_bind (wpAny_bind (I.type.here (wpAny_bind (hm.here ?_))))
  rw [refuse_exc _ ho]
  refine wpAny_pure (wpAny_bind (I.type.here (wpAny_bind ((looks_findIn X ht).here (wpAny_bind ((Looks.now (a := none)).here ?_))))))
  exact h
end
end Mine

set_option Elab.async false
set_option maxRecDepth 100000
set_option linter.unusedVariables false
namespace Mine
open PySem PySem.W PyProof.Rows Builtin Builtin.ObjectAttr
variable {C : Cx} {k : Nat} {K : Frag} {env : Env} {ρ : Rho} {H : Hp} {Q R : V → Hp → Prop}

theorem storeDict_W {A : Around} {s : Shared} {d : Addr} {m : Str → Option V} {n n' : Nat} {name : Str} {u : V} {z : Value} {tk : Tok} {P : Fin → Shared → Prop} {E : Value → Shared → Prop} (S : Sim C H s) (hd : H d = some (.ns m n)) (r2 : VRel s.heap H u z) (hn : n ≤ 900) (hn' : n + 1 ≤ n')
    (h : ∀ s', Sim C (H.set d (.ns (Rho.set m name u) n')) s' → Ext H s.heap (H.set d (.ns (Rho.set m name u) n')) s'.heap → P (.done (.ret .none)) s') : wpAny C.M A (storeInDict d (.str name tk) name z) P E s := by
  obtain ⟨od, es, ep, e, hdat, hk, hz, hr⟩ := S.objs _ _ hd
  unfold storeInDict
  refine wpAny_bind (wpAny_pure (wpAny_bind ?_))
  unfold nsSet
  refine wpAny_bind (wpAny_bind (wpAny_askSetting (wpAny_pure (wpAny_bind (wpAny_mkText (wpAny_bind (wpAny_loadPart e ?_)))))))
  rw [hdat]
  dsimp only
  rw [aRefKeyMayBeTheName_at, noRefKey hk, Bool.and_false]
  obtain ⟨es', ep', g1, g2, g3, g4, g5⟩ := putName_ns hdat hk name (PyData.keyHash C.w.params name) s.toks z
  have e' : (s.heap.update d (Obj.putName name (PyData.keyHash C.w.params name) (.str name s.toks) z)).get? d = some (Obj.putName name (PyData.keyHash C.w.params name) (.str name s.toks) z od) := Heap.get?_update_self _ e (Obj.isFreed_of_dict g1)
  have hsb := Heap.SameBut.update s.heap d (Obj.putName name (PyData.keyHash C.w.params name) (.str name s.toks) z)
  refine wpAny_updatePart e ?_
  refine wpAny_bind (wpAny_lookBehind e' (by rw [g1]; exact pastItsLine_dict (by rw [sizeLine_eq]; omega)) ?_)
  refine wpAny_pure ?_
  have hne : ∀ b, H b = none → b ≠ d := fun b e' q => by rw [q, hd] at e'; cases e'
  have E0 : ∀ o', ExtV H s.heap (H.set d o') (s.heap.update d (Obj.putName name (PyData.keyHash C.w.params name) (.str name s.toks) z)) := fun o' b ob _ _ e _ n => ⟨.of ((hsb.2 b (hne b n)).trans e), by unfold Hp.set; rw [if_neg (hne b n)]; exact n⟩
  obtain ⟨S', E'⟩ := S.update (s' := { s with heap := s.heap.update d (Obj.putName name (PyData.keyHash C.w.params name) (.str name s.toks) z), toks := s.toks + 1 }) (o' := .ns (Rho.set m name u) n') hd hsb ⟨_, e'⟩ rfl rfl
    ⟨_, es', ep', e', g1, g2, by omega, fun x => by
      rw [g3]
      unfold Rho.set
      by_cases q : x = name
      · simp only [q, if_true]; exact r2.extV (E0 _)
      · simp only [q, if_false]; exact (hr x).extV (E0 _)⟩
  exact h _ S' E'

theorem SetAttrW.exc (P : PCx C K) {e c : Addr} {T : Option Addr} {name : Str} {u : V} {QH : Hp → Prop} (hc : ExcOk K c) (he : H e = some (.exc c none T)) (hx : findIn K (.ref c) name = some none)
    (h : ∀ d, H d = none → d ≠ e → QH ((H.set d (.ns (Rho.set (Rho.of []) name u) 1)).set e (.exc c (some d) T))) : SetAttrW C k (.ref e) name u QH R H := fun A lv s x z S r1 r2 => by
  cases r1
  obtain ⟨oe, vs, e1, e2, e3, e4, e5, e6⟩ := S.objs _ _ he
  obtain ⟨c0, d0, dt, sl⟩ := oe
  dsimp only at e2 e3 e4
  subst e2 e3 e4
  have X := P.at S
  have I : InstAt s.heap e ⟨.ref c, none, .fields vs, sl⟩ c none := ⟨e1, rfl, rfl, trivial⟩
  refine set_plain X I hc.set ?_
  refine osa_exc (s := { s with toks := s.toks + 1 }) X I hc.mro hx ?_
  obtain ⟨cd, hcd, hh⟩ := any_some hc.mro
  simp only [Bool.and_eq_true] at hh
  have hk : ∀ b o, s.heap.get? b = some o → (s.heap.push { cls := .type "dict", data := .dict #[] }).get? b = some o := fun b o eb => Heap.get?_push_of_some _ eb
  unfold storeInOwnDict
  refine wpAny_bind (wpAny_pure (wpAny_bind ?_))
  unfold ownDictForStores instanceDict
  refine wpAny_bind (wpAny_loadPart e1 (wpAny_bind (looks_clsIn X hcd _ _ _ _ (fun _ _ e => e) ?_)))
  rw [if_neg (by rw [hh.1]; decide)]
  dsimp only
  rw [if_neg (by show ¬ ((!true || !true) = true); decide)]
  obtain ⟨S1, E1⟩ := (S.toks (s.toks + 1)).alloc (s' := { s with heap := s.heap.push { cls := .type "dict", data := .dict #[] }, toks := s.toks + 1 }) (o := .ns (Rho.of []) 0) hk rfl rfl
    ⟨_, #[], 0, Heap.get?_push_size _ rfl, rfl, fun _ he => by simp at he, Nat.le_refl _, fun _ => trivial⟩
  have hne : s.heap.objs.size ≠ e := Nat.ne_of_gt (Heap.lt_size e1)
  have hd0 : H s.heap.objs.size = none := S.fresh (Nat.le_refl _)
  have he1 : (H.set s.heap.objs.size (.ns (Rho.of []) 0)) e = some (.exc c none T) := by unfold Hp.set; rw [if_neg hne.symm]; exact he
  have eh := hk _ _ e1
  refine wpAny_bind (wpAny_alloc (wpAny_bind (wpAny_update eh ?_)))
  have e3' : ((s.heap.push { cls := .type "dict", data := .dict #[] }).update e fun o => { o with dict := some s.heap.objs.size }).get? e = some ⟨.ref c, some s.heap.objs.size, .fields vs, sl⟩ := Heap.get?_update_self _ eh rfl
  obtain ⟨S2, E2⟩ := S1.update (s' := { s with heap := (s.heap.push { cls := .type "dict", data := .dict #[] }).update e fun o => { o with dict := some s.heap.objs.size }, toks := s.toks + 1 }) (o' := .exc c (some s.heap.objs.size) T) he1 (.update ..) ⟨_, e3'⟩ rfl rfl
    ⟨_, vs, e3', rfl, rfl, rfl, e5, e6⟩
  have hd2 : ((H.set s.heap.objs.size (.ns (Rho.of []) 0)).set e (.exc c (some s.heap.objs.size) T)) s.heap.objs.size = some (.ns (Rho.of []) 0) := by simp [Hp.set, hne]
  refine wpAny_pure ?_
  refine storeDict_W S2 hd2 (r2.ext (E1.trans E2)) (by decide) (n' := 1) (Nat.le_refl _) fun s' S' E' => ?_
  have hH : (((H.set s.heap.objs.size (.ns (Rho.of []) 0)).set e (.exc c (some s.heap.objs.size) T)).set s.heap.objs.size (.ns (Rho.set (Rho.of []) name u) 1)) = ((H.set s.heap.objs.size (.ns (Rho.set (Rho.of []) name u) 1)).set e (.exc c (some s.heap.objs.size) T)) := by
    funext b
    simp only [Hp.set]
    by_cases q1 : b = s.heap.objs.size
    · subst q1; simp [hne]
    · by_cases q2 : b = e
      · rw [if_neg q1, if_pos q2, if_pos q2]
      · rw [if_neg q1, if_neg q2, if_neg q1, if_neg q2, if_neg q1]
  rw [hH] at S' E'
  exact ⟨(), _, h _ hd0 hne, S', trivial, (E1.trans E2).trans E'⟩
end Mine

set_option Elab.async false
set_option maxRecDepth 100000
set_option linter.unusedVariables false
namespace Mine
open PySem PySem.W PyProof.Rows Builtin Builtin.ObjectAttr
variable {C : Cx} {k : Nat} {K : Frag} {env : Env} {ρ : Rho} {H : Hp} {Q R : V → Hp → Prop}

theorem AttrW.exc (P : K.In C.base) {e c d : Addr} {T : Option Addr} {m : Str → Option V} {n : Nat} {name : Str} {v : V} (hc : ExcOk K c) (he : H e = some (.exc c (some d) T)) (hd : H d = some (.ns m n)) (hm : m name = some v)
    (hx : findIn K (.ref c) name = some none) (hv : v.plain = true) (h : Q v H) : AttrW C k (.ref e) name Q R H := fun A lv s x S r => by
  cases r
  obtain ⟨oe, vs, e1, e2, e3, e4, e5, e6⟩ := S.objs _ _ he
  obtain ⟨od, es, ep, eD, hdat, hk, hz, hr⟩ := S.objs _ _ hd
  obtain ⟨c0, d0, dt, sl⟩ := oe
  dsimp only at e2 e3 e4
  subst e2 e3 e4
  have X : K.In s.heap := fun a o e => S.keep a o (P a o e)
  have I : InstAt s.heap e ⟨.ref c, some d, .fields vs, sl⟩ c (some od) := ⟨e1, rfl, rfl, eD⟩
  have hu := hr name
  rw [hm] at hu
  obtain ⟨u, hf, hu⟩ := hu.get
  obtain ⟨cd, hcd, hh⟩ := any_some hc.mro
  simp only [Bool.and_eq_true] at hh
  have hfo : findObj K c (some od) name = some (.value u) := by
    unfold findObj
    rw [hcd, hx]
    simp only [Option.bind_some]
    unfold W.ownOf
    rw [hh.1]
    simp [lookIn_ns hdat hk, hf]
  have hh2 := hu.handed hv
  obtain ⟨rs, hm0⟩ := excMro_tail hh.2
  have ne : cd.mro.isEmpty = false := by rw [hm0]; cases rs <;> rfl
  have has : cd.mro.contains (.type "BaseException") = true := by rw [hm0]; simp
  have hS := S.toks (s.toks + 1)
  obtain ⟨hp, g, dr, tk, os⟩ := s
  dsimp only at X I hu hS
  have L0 := I.type (M := C.M)
  have L1 := looks_findIn (M := C.M) X hc.get
  have Lh : Looks C.M hp (hookBefore (.ref c)) none := looks_hook X (by rw [if_pos (by rfl)]; exact hc.hook)
  have sub : Looks C.M hp (isInstance (.ref e) (.type "BaseException")) true := L0.andThen (looks_mroIn X (by unfold mroIn; rw [hcd, Option.bind_some, if_neg (by rw [ne]; decide), has]))
  have FA := PySem.F.excAttr_ValueError
  unfold getAttr getAttrBy
  refine wpAny_bind (wpAny_mkText (wpAny_holding (wpAny_bind (L0.at (wpAny_bind (L1.at ?_))))))
  dsimp only
  rw [if_neg (by rw [show (Value.builtin "BaseException.__getattribute__" == Value.builtin "object.__getattribute__") = false from by decide +kernel, Bool.and_false]; decide)]
  refine wpAny_bind (Lh.at (wpAny_bind (wpAny_attempt (wpAny_holding ?_))))
  unfold callGetattribute
  rw [if_neg (by decide +kernel)]
  unfold boundAndCalled
  rw [FA.ga.bind]
  refine wpAny_bind (wpAny_pure ?_)
  refine wpAny_call ?_
  refine codeAny_call_builtin FA.ga.plain PySem.F.entry_bexc_ga ?_
  refine @check_slot C.M _ _ ⟨hp, g, dr, tk + 1, os⟩ "BaseException.__getattribute__" "BaseException" "__getattribute__" (.ref e) [.str name tk] [] _ (by decide +kernel) (by decide +kernel) sub (PySem.F.args_bexc_ga (.ref e) (.str name tk)) ?_
  unfold Builtin.«object.__getattribute__»
  refine wpAny_bind (wpAny_pure (wpAny_bind (wpAny_pure (wpAny_bind (L0.at (wpAny_bind ((looks_find (M := C.M) X I hfo).at ?_)))))))
  refine wpAny_pure ?_
  show wpAny C.M A (handedOut u) _ _ _
  rw [handedOut_of hh2]
  exact wpAny_pure (Post.here h hS hu rfl)
end Mine

set_option Elab.async false
set_option maxRecDepth 100000
set_option linter.unusedVariables false
namespace Mine
open PySem PySem.W PyProof.Rows
variable {C : Cx} {k : Nat} {K : Frag} {env : Env} {ρ : Rho} {H : Hp} {Q R : V → Hp → Prop}

theorem Sim.take {s : Shared} {b : Addr} {ob : Obj} {o : O} (S : Sim C H s) (hb : s.heap.get? b = some ob) (nb : ∀ xs n, ob.data ≠ .seq xs n) (nd : ∀ es ep, ob.data ≠ .dict es ep) (Hb : H b = none) (new : C.base.get? b = none) (nsys : b ≠ sysModules)
    (hr : ORel C s.heap (H.set b o) b o) : Sim C (H.set b o) s := by
  have EV : ExtV H s.heap (H.set b o) s.heap := fun a oa xs n e d m => by
    have hne : a ≠ b := fun q => by subst q; rw [hb] at e; cases e; exact nb _ _ d
    exact ⟨.of e, by unfold Hp.set; rw [if_neg hne]; exact m⟩
  refine ⟨S.keep, S.gens, S.os, fun a o' e => ?_, fun a e => ?_, S.frs.keep fun L o' es ep e n d => ⟨?_, e⟩⟩
  · unfold Hp.set at e
    split at e
    · rename_i q; subst q; cases e; exact hr
    · exact (S.objs a o' e).same EV rfl
  · unfold Hp.set at e
    split at e
    · rename_i q; subst q; exact ⟨new, nsys⟩
    · exact S.new a e
  · have hne : L ≠ b := fun q => by subst q; rw [hb] at e; cases e; exact nd _ _ d
    unfold Hp.set; rw [if_neg hne]; exact n

structure ExcMk (C : Cx) (c fI : Addr) : Prop where
  all : ∃ nm q N bs bm hdct sn sub ab col dd k0 k1 k2 k3 k5 mN oI, C.base.get? c = some (excClassObj nm q c N bs bm hdct sn sub ab col dd k0 k1 k2 k3 k5 "ValueError.__new__") ∧ OwnTail C.base [.type "ValueError", .type "Exception", .type "BaseException", .type "object"] bm ∧
    C.base.Ns N mN ∧ mN "__init__" = some (.ref fI) ∧ C.base.get? fI = some oI ∧ oI.cls = .type "function"
theorem CallW.mkExc {c fI : Addr} {Sp : SpecT} {args : List V} (hc : ExcMk C c fI) (init : FnOK C k (.ref fI) Sp) (hn : args.length ≤ 100)
    (h : ∀ e, H e = none → Sp (.ref e :: args) (fun r H' => r = .none ∧ Q (.ref e) H') R (H.set e (.exc c none none))) : CallW C (k + 1) (.ref c) args Q R H := fun A lv s xs S r => by
  obtain ⟨nm, q, N, bs, bm, hdct, sn, sub, ab, col, dd, k0, k1, k2, k3, k5, mN, oI, hC, hT, hN, hi, hfI, hfc⟩ := hc.all
  have T₁ := hT.keeps S.keep
  have hN₁ : s.heap.Ns N mN := hN.keeps S.keep
  have hl : xs.length = args.length := r.length
  have hsz := sizeLine_eq
  obtain ⟨hp, g, dr, tk, os⟩ := s
  dsimp only at T₁ hN₁
  refine call_initT PySem.F.excBase_ValueError T₁ (S.keep _ _ hC) hN₁ hi (S.keep _ _ hfI) hfc (fun h' e hz hm => ?_) (by omega)
  obtain ⟨t, he, htn, ht⟩ := hm.there
  have S1 : Sim C H ⟨h', g, dr, tk, os⟩ := S.grown (s' := ⟨h', g, dr, tk, os⟩) hm.keeps rfl rfl
  have hH : H e = none := S.fresh hz
  have S2 : Sim C (H.set e (.exc c none none)) ⟨h', g, dr, tk, os⟩ := S1.take he (fun _ _ q => by cases q) (fun _ _ q => by cases q) hH (S.freshB hz) (S.freshS hz) ⟨_, _, he, rfl, rfl, rfl, by simp, rfl⟩
  have E2 : Ext H hp (H.set e (.exc c none none)) h' := ⟨fun a o ea _ => .of (hm.keeps a o ea), fun a o ea n => by
    have : a ≠ e := fun q => by rw [q, hm.new] at ea; cases ea
    unfold Hp.set; rw [if_neg this]; exact n, fun a o ea => ⟨o, hm.keeps a o ea⟩⟩
  obtain ⟨w1, w2⟩ := under_typeCall A c xs []
  have lv' : Lv C k (A.under (.builtin "type.__call__" ⟨.ref c :: xs, []⟩)) :=
    ⟨fun e => lv.handled e, by have := lv.depth; show A.depth + Code.weight _ + 2 * k + 100 < _; rw [w1]; omega, by have := lv.units; show A.units + Code.cUnits _ + 40 * k + 100 < _; rw [w2]; omega, fun l e => lv.frames l e⟩
  refine wpAny_call (codeAny_mono (init _ lv' _ _ (.ref e :: args) (.ref e :: xs) _ _ S2 (.cons (.ref _) (r.ext E2)) (h e hH)) fun r s' z => ?_)
  rcases r with x | (_ | _ | _ | v)
  · exact Post.after E2 z
  · exact z.elim
  · exact z.elim
  · exact z.elim
  · obtain ⟨v', H', ⟨hv, qq⟩, S', rv, E'⟩ := z
    subst hv
    have : v = .none := by cases rv; rfl
    exact ⟨this, _, H', qq, S', .ref _, E2.trans E'⟩
end Mine

set_option Elab.async false
set_option maxRecDepth 100000
set_option linter.unusedVariables false
namespace Mine
open PySem PySem.W PyProof.Rows
section
variable {M : Model} {A : Around} {E : Value → Shared → Prop} {env : Env}
variable {nm q : Str} {C N : Addr} {bs bm : List Value} {hdct : Bool} {sn : List Str} {sub : List Value} {ab : Bool} {col : Option Bool} {dd : Option Addr} {k0 k1 k2 k3 k5 : Option Value} {newId : String}
theorem raiseStmt_made {s : Shared} {x : Sem Value} {Q : Flow → Shared → Prop} (hbase : bm.contains (.type "BaseException") = true) (hh : A.handled = none)
    (h : wpAny M A x (fun v s₁ => ∃ e d vs sl, v = .ref e ∧ s₁.heap.get? C = some (excClassObj nm q C N bs bm hdct sn sub ab col dd k0 k1 k2 k3 k5 newId) ∧
      s₁.heap.get? e = some { cls := .ref C, dict := d, data := .fields vs, slots := sl } ∧ vs[1]? = some .none ∧ E (.ref e) s₁) E s) :
    wpAny M A (raiseStmt env (some x) none) Q E s := by
  have hcB : (Value.ref C :: bm).contains (.type "BaseException") = true := by rw [List.contains_cons, hbase, Bool.or_true]
  unfold raiseStmt
  refine wpAny_bind (wpAny_mono h (fun v s₁ h₁ => ?_) fun _ _ x => x)
  obtain ⟨e, d0, vs, sl, rfl, hC, he, h1, hE⟩ := h₁
  obtain ⟨hp, g, d, tk, os⟩ := s₁
  repeat (first | with_reducible refine wpAny_loadPart_at he ?_ | with_reducible refine wpAny_loadPart_at hC ?_ | (with_reducible refine wpAny_isSubtype_exc hC ?_; rw [hcB]) | with_reducible refine wpAny_field he rfl h1 ?_ | wp_step)
  exact wpAny_raiseNew_none hh hE
end
variable {C : Cx} {k : Nat} {K : Frag} {env : Env} {ρ : Rho} {H : Hp} {QS : Fl → Rho → Hp → Prop} {RS : V → Rho → Hp → Prop}
theorem ExecW.raise_ {ex pos} {c : Addr} (hd : C.hd = true) (hc : ExcCls C c) (h : EvalW C k env ex (fun v H' => ∃ x d, v = .ref x ∧ H' x = some (.exc c d none) ∧ RS v ρ H') (fun v H' => RS v ρ H') ρ H) : ExecW C k env (.Raise (some ex) none pos) QS RS ρ H := fun A a s S => by
  obtain ⟨nm, q, N, bs, bm, hdct, sn, sub, ab, col, dd, k0, k1, k2, k3, k5, hC, hT⟩ := hc.tail
  rw [arm_exec_Raise]
  refine wpAny_bind (wpAny_standAt ?_)
  show wpAny C.M A (raiseStmt env (some (do let v ← eval ex env; standAt pos; pure v)) none) _ _ _
  refine raiseStmt_made (C := c) (nm := nm) (q := q) (N := N) (bs := bs) (bm := bm) (hdct := hdct) (sn := sn) (sub := sub) (ab := ab) (col := col) (dd := dd) (k0 := k0) (k1 := k1) (k2 := k2) (k3 := k3) (k5 := k5) (newId := "ValueError.__new__") (hT.hasType (by decide)) (a.handled hd) (wpAny_bind (wpAny_mono (h A a s S) (fun v s₁ h₁ => wpAny_bind (wpAny_standAt (wpAny_pure ?_))) fun _ _ p => p.toX S))
  obtain ⟨v', H', ⟨x, d, rfl, hx, hR⟩, S', rv, E'⟩ := h₁
  cases rv
  obtain ⟨oe, vs, e1, e2, e3, e4, e5, e6⟩ := S'.objs _ _ hx
  obtain ⟨c0, d0, dt, sl⟩ := oe
  dsimp only at e2 e3 e4
  subst e2 e3 e4
  exact ⟨x, d0, vs, sl, rfl, S'.keep _ _ hC, e1, e6, .ref x, ρ, H', hR, .ref _, S.ext S' E', E'.toF⟩
end Mine

set_option Elab.async false
set_option maxRecDepth 100000
set_option linter.unusedVariables false
namespace Mine
open PySem PySem.W PyProof.Rows
variable {C : Cx} {k : Nat} {K : Frag} {env : Env} {ρ : Rho} {H : Hp} {QS : Fl → Rho → Hp → Prop} {RS : V → Rho → Hp → Prop}

noncomputable abbrev Cx.low0 (C : Cx) : Cx := { C with hd := false }
theorem Sim.to0 {s : Shared} (S : Sim C H s) : Sim C.low0 H s := ⟨S.keep, S.gens, S.os, S.objs, S.new, S.frs⟩
theorem Sim.of0 {s : Shared} (S : Sim C.low0 H s) : Sim C H s := ⟨S.keep, S.gens, S.os, S.objs, S.new, S.frs⟩
theorem SimL.to0 {s : Shared} (S : SimL C env ρ H s) : SimL C.low0 env ρ H s := ⟨S.sim.to0, S.kind, S.globals, S.builtins, let ⟨m, cm, F, r⟩ := S.frm; ⟨m, cm, ⟨F.ns, F.cell, F.own, F.ownc, F.above, F.abovec, F.apart⟩, r⟩⟩
theorem SimL.of0 {s : Shared} (S : SimL C.low0 env ρ H s) : SimL C env ρ H s := ⟨S.sim.of0, S.kind, S.globals, S.builtins, let ⟨m, cm, F, r⟩ := S.frm; ⟨m, cm, ⟨F.ns, F.cell, F.own, F.ownc, F.above, F.abovec, F.apart⟩, r⟩⟩
theorem Lv.to0 {A : Around} (a : Lv C k A) (x : Option Value) : Lv C.low0 k (A.mark x) := ⟨(fun q => by cases q), a.depth, a.units, a.frames⟩

theorem nameGoes_W {A : Around} {s : Shared} {n : Str} {pos : Pos} {P : Unit → Shared → Prop} {E : Value → Shared → Prop} (hl : env.kindOf n = some .local) (S : SimL C env ρ H s)
    (h : ∀ s', SimL C env (fun _ => none) H s' → ExtF env H s.heap H s'.heap → ExtV H s.heap H s'.heap → P () s') : wpAny C.M A (do bindName env n .none; unbindBehindTheSuite env n pos) P E s := by
  obtain ⟨m, cm, F, rr⟩ := S.frm
  refine wpAny_nameGoes hl F.ns (by rw [S.kind]; rfl) fun h' m' hn hs => ?_
  obtain ⟨oL, eL, nL⟩ := ns_noseq F.ns
  have hk' : ∀ a o, a ≠ env.locals → s.heap.get? a = some o → h'.get? a = some o := fun a o n e => hs.extBut a o n e
  have S1 : Sim C H { s with heap := h', toks := s.toks + 1 } := S.sim.touch (s' := { s with heap := h', toks := s.toks + 1 }) eL nL F.own F.above hk' rfl rfl (.inl (ns_dict hn))
  have V1 : ExtV H s.heap H h' := ExtV.but eL nL hk'
  obtain ⟨oL', eL', _⟩ := ns_noseq hn
  refine h _ ⟨S1, S.kind, S.globals, S.builtins, m', cm, ⟨hn, fun n c e => ?_, F.own, F.ownc, F.above, F.abovec, F.apart⟩, fun y w e => by cases e⟩ ⟨fun a o e _ n _ => .of (hk' a o n e), fun a o e n => n, fun a o e => ?_⟩ V1
  · have := F.cell n c e
    refine this.sameBut hs fun q => ?_
    obtain ⟨oc, ec, dc⟩ := this
    subst q; obtain ⟨o, es, ep, e1, d1, _⟩ := F.ns; rw [e1] at ec; cases ec; rw [d1] at dc; cases dc
  · by_cases q : a = env.locals
    · subst q; exact ⟨oL', eL'⟩
    · exact ⟨o, hk' a o q e⟩
theorem FlRel.extV {h h' : Heap} {H H' : Hp} (E : ExtV H h H' h') : ∀ {fl : Fl} {f : Flow}, FlRel h H fl f → FlRel h' H' fl f
  | .next, .next, _ => trivial
  | .brk, .brk, _ => trivial
  | .cont, .cont, _ => trivial
  | .ret _, .ret _, r => VRel.extV E r
noncomputable def Caught (Hd : Addr → Rho → Hp → Prop) (L : Addr) : V → Rho → Hp → Prop := fun v ρ H => ∃ e c d T0, v = .ref e ∧ H e = some (.exc c d T0) ∧ (T0 = none ∨ ∃ T, T0 = some T ∧ H T = some (.tb none)) ∧
  ∀ H' T', H' e = some (.exc c d (some T')) → H' T' = some (.tb none) → (∀ b, b ≠ e → (∀ fl, H b ≠ some (.tb fl)) → H b ≠ none → H' b = H b) → Hd e ρ H'
end Mine

set_option Elab.async false
set_option maxRecDepth 100000
set_option linter.unusedVariables false
namespace Mine
open PySem PySem.W PyProof.Rows
variable {C : Cx} {k : Nat} {K : Frag} {env : Env} {ρ : Rho} {H : Hp} {Q : Fl → Rho → Hp → Prop} {R : V → Rho → Hp → Prop} {l : List Env} {L : Addr}

noncomputable def LoopX (L : Addr) (R : V → Rho → Hp → Prop) : V → Rho → Hp → Prop := fun v ρ H => ∃ e c d, v = .ref e ∧ H e = some (.exc c d none) ∧ ∀ T, H T = none → T ≠ e → R (.ref e) ρ ((H.set T (.tb (some L))).set e (.exc c d (some T)))

theorem back_W {A : Around} {s : Shared} {e c T : Addr} {d : Option Addr} {E : Value → Shared → Prop} (hf : env.frame = some L) (S : Sim C H s) (he : H e = some (.exc c d (some T))) (hT : H T = some (.tb (some L)))
    (h : ∀ s', Sim C H s' → Ext H s.heap H s'.heap → E (.ref e) s') : cameBackBy C.M A env E (.ref e) s := by
  obtain ⟨oe, vs, e1, e2, e3, e4, e5, e6⟩ := S.objs _ _ he
  obtain ⟨oT, ts, t1, t2, t3⟩ := S.objs _ _ hT
  have e6 : vs[1]? = some (.ref T) := e6
  have t3 : ts[3]? = some (rawInt L) := t3
  have hsz := (Array.getElem?_eq_some_iff.mp t3).1
  unfold cameBackBy
  refine wpAny_bind (wpAny_field e1 e4 e6 ?_)
  rw [if_neg (show ¬ ((Value.ref T == Value.none) = true) from by simp)]
  rw [hf]
  unfold setFlight
  refine wpAny_bind (wpAny_field e1 e4 e6 ?_)
  rw [if_pos (show (Value.ref T != Value.none) = true from by simp)]
  refine wpAny_setField t1 t2 hsz ?_
  have hd3 := Obj.data_mapFields t2 (·.setIfInBounds 3 (rawInt L))
  have ht3 := Heap.get?_update_self (Obj.mapFields (·.setIfInBounds 3 (rawInt L))) t1 (Obj.isFreed_of_fields hd3)
  obtain ⟨S1, E1⟩ := S.update (s' := { s with heap := s.heap.update T (Obj.mapFields (·.setIfInBounds 3 (rawInt L))) }) (o' := .tb (some L)) hT (.update ..) ⟨_, ht3⟩ rfl rfl ⟨_, _, ht3, hd3, by simp [hsz]⟩
  have hset : H.set T (.tb (some L)) = H := by
    funext b; unfold Hp.set; split
    · rename_i z; rw [z, hT]
    · rfl
  rw [hset] at S1 E1
  exact h _ S1 E1
end Mine

set_option Elab.async false
set_option maxRecDepth 100000
set_option linter.unusedVariables false
namespace Mine
open PySem PySem.W PyProof.Rows
variable {C : Cx} {k : Nat} {K : Frag} {env : Env} {ρ : Rho} {H : Hp} {Q R : V → Hp → Prop}

noncomputable def MethC (C : Cx) (H : Hp) (v : V) (name : Str) (f : Value) : Prop :=
  ∀ (A : Around) (s : Shared) (x : Value) (pl : Sem Bool) (Q : Value × List Value → Shared → Prop) (E : Value → Shared → Prop), Sim C H s → VRel s.heap H v x → (∀ t, Q (f, []) { s with toks := t }) → wpAny C.M A (getMethod x name pl) Q E s
theorem MethC.cls (P : PCx C K) {c : Addr} {name : Str} {f : Value} (hr : readsIn K c (.type "type") = true) (hg : specialIn K (.ref c) "__getattribute__" = some (some (.builtin "type.__getattribute__"))) (e : findCls K (.ref c) (.type "type") name = some (.val f)) (hh : handedIn f = true) : MethC C H (.con (.ref c)) name f := fun A s x pl Q E S r h => by
  cases r
  exact method_cls (P.at S) hg (cls_value (P.at S) hr e hh (h _))
theorem EvalW.methodC {o name apos args pos pl} (h : EvalW C k env o (fun v H₁ => ∃ f, MethC C H₁ v name f ∧ Plainly C f ∧ ArgsW C k env args (fun vs H₂ => CallW C k f vs Q R H₂) R ρ H₁) R ρ H)
    (he : eval (.Call (.Attribute o name apos) args [] pos) env = (do
      let ov ← eval o env
      standAt apos.atName
      let (f, first) ← holding [ov] (getMethod ov name pl)
      callWith pos f first (backTo pos (starEach args env)) []) := by rfl)
    (hp : (starEach args env).any (·.1) = false := by rfl) : EvalW C k env (.Call (.Attribute o name apos) args [] pos) Q R ρ H := fun A a s S => by
  refine MethodCall_ (pl := pl) (wp_go (h A a s S) fun x v H₁ s₁ h₁ S₁ r₁ E₁ => ?_) he
  obtain ⟨f, hm, hpl, h₁⟩ := h₁
  refine hm A s₁ x _ _ _ S₁ r₁ fun t => ?_
  have S₁' := S₁.toks t
  refine hpl A _ _ _ [] pos _ (backTo_plain hp) (wp_go (h₁ A a { s₁ with toks := t } (S.ext S₁' E₁) pos) (fun xs vs H₂ s₂ h₂ S₂ r₂ E₂ => ⟨S₂.keep, ?_⟩) fun _ _ p => p.after E₁)
  exact wp_fin (E₁.trans E₂) (h₂ A a s₂ xs S₂ r₂)
end Mine

set_option Elab.async false
set_option maxRecDepth 100000
set_option linter.unusedVariables false
namespace Mine
open PySem PySem.W PyProof.Rows
variable {C : Cx} {k : Nat} {K : Frag}
theorem ns_of {h : Heap} {N : Addr} {c : Value} {d : Option Addr} {es : Array DictEntry} {ep : Nat} {sl : Array (Option Value)} (X : K.In h) (e : K.lookup N = some ⟨c, d, .dict es ep, sl⟩) (hk : (es.toList.all fun e => match e.key with | .str .. => true | _ => false) = true) : h.Ns N (nsFind es) := by
  refine ⟨_, es, ep, X _ _ e, rfl, fun x hx => ?_, fun _ => rfl⟩
  have := List.all_eq_true.mp hk x (by simpa using hx)
  split at this
  · rename_i n t q; exact ⟨n, t, q⟩
  · cases this
end Mine

set_option Elab.async false
set_option maxRecDepth 100000
set_option linter.unusedVariables false
namespace Mine
open PySem PySem.W PyProof.Rows
variable {C : Cx} {K : Frag} {l : List Env}
theorem FnOK.ofSX {k : Nat} {a : Addr} {s : Option Stmt} {name qual : Str} {params : Arguments} {body : List Stmt} {scope : Scope} {dV kV doc pm cdv ct : Value} {an : Option Addr} {S : SpecT} (names : List Str)
    (P : PCx C K) (hC : C.frs = some l) (ho : K.lookup a = some (fobj s name qual dV kV doc pm an cdv ct)) (hs : fnTri s = (params, body, scope)) (hcd : codeIn K cdv qual = true)
    (hbind : ∀ vals : List Value, vals.length = names.length → bindArgs (fnOf name qual params body scope dV kV doc pm an cdv ct) ⟨vals, []⟩ = pure (names.zip vals))
    (hk : (names.all fun n => scope.names.lookup n == some .local || scope.names.lookup n == some .cell) = true) (hfl : (!scope.isCoroutine && !scope.isGenerator && scope.kind == .function) = true)
    (h : ∀ args Q R H, S args Q R H → args.length = names.length ∧ ∀ L, PCx (C.push (envOfC qual scope L a cdv)) K → (C.push (envOfC qual scope L a cdv)).frs = some (envOfC qual scope L a cdv :: l) → (envOfC qual scope L a cdv).frame = some L →
      ExecsW (C.push (envOfC qual scope L a cdv)) k (envOfC qual scope L a cdv) body (RetQ Q) (fun v _ H' => XR L R v H') (bindRho (fun _ => none) names args) H) :
    FnOK C (k + 1) (.ref a) S := by
  unfold fobj at ho
  rw [hs] at ho
  simp only [Bool.and_eq_true, Bool.not_eq_true', beq_iff_eq] at hfl
  have D : FnDef C a (fnOf name qual params body scope dV kV doc pm an cdv ct) names body :=
    ⟨⟨_, P.X _ _ ho, rfl⟩, P.lim, codeRec_of P.X hcd, rfl, rfl, rfl, rfl, hfl.1.1, hfl.1.2, hfl.2, hbind, fun n hn => by
      have := List.all_eq_true.mp hk n hn
      simpa using this⟩
  exact FnOK.of_defX D hC fun args Q R H hs => ⟨(h args Q R H hs).1, fun L => (h args Q R H hs).2 L (P.push _) (by show C.frs.map _ = _; rw [hC]; rfl) rfl⟩

section
variable {k : Nat} {env : Env} {ρ : Rho} {H : Hp} {Q : Fl → Rho → Hp → Prop} {R : V → Rho → Hp → Prop} {L : Addr}
theorem for_coreX {target : Expr} {body : List Stmt} {I : Addr} {wr : List Addr} {St : List V → Hp → Heap → Prop} {cond : Hp → Prop} {tup : Bool} (IT : ItrOK C tup I wr St cond) (ht : IsTupleE tup target) (hd : C.hd = true) (hC : C.frs = some (env :: l)) (hf : env.frame = some L) {A : Around} (a : Lv C k A)
    (Inv : List V → Rho → Hp → Prop) (hc : ∀ r ρ H, Inv r ρ H → cond H)
    (step : ∀ v r ρ H, Inv (v :: r) ρ H → AssignW C k env target v (fun ρ' => ExecsW C k env body (fun fl ρ'' H'' => match fl with
      | .next => Inv r ρ'' H'' | .cont => Inv r ρ'' H'' | .brk => Q .next ρ'' H'' | .ret u => Q (.ret u) ρ'' H'') (LoopX L R) ρ' H) ρ H)
    (fin : ∀ ρ H, Inv [] ρ H → Q .next ρ H)
    {h₀ : Heap} {H₀ : Hp} (hn : ∀ b ∈ wr, h₀.get? b = none) {PE : Result → Shared → Prop}
    (hPE : ∀ f s', PostS C env H₀ h₀ Q f s' → PE (.ok f) s') (hPX : ∀ e s', cameBackBy C.M A env (PostX C env H₀ h₀ R) e s' → PE (.error e) s')
    (items : List V) (s : Shared) (S : SimL C env ρ H s) (E : ExtF env H₀ h₀ H s.heap) (st : St items H s.heap) (hI : Inv items ρ H) :
    codeAny C.M A (.forLoop target (.ref I) body [] env) PE s := by
  have hu : A.units + 1 < cLine := by have := a.units; omega
  have hA := a.frames _ hC
  refine codeAny_forLoop_any (fun n s' => ∃ r ρ H', n = r.length + 1 ∧ Inv r ρ H' ∧ SimL C env ρ H' s' ∧ ExtF env H₀ h₀ H' s'.heap ∧ St r H' s'.heap) ?_ (items.length + 1) ⟨items, ρ, H, rfl, hI, S, E, st⟩
  rintro n s₃ ⟨r, ρ₃, H₃, rfl, hI, S₃, E₃, st⟩
  have T := IT.tmp _ _ _ st
  cases r with
  | nil =>
    refine IT.done A s₃ H₃ _ _ (a.handled hd) hu S₃.sim (hc _ _ _ hI) st fun s' M => ?_
    exact wpAny_execs_nil (hPE _ _ ⟨.next, ρ₃, H₃, fin ρ₃ H₃ hI, trivial, S₃.moved T M, E₃.moved M hn⟩)
  | cons v r =>
    refine IT.next A hu s₃ v r H₃ _ _ S₃.sim (hc _ _ _ hI) st fun x s' hlet => ?_
    refine hlet target ht _ fun s'' rx'' st'' M'' => ?_
    have S'' := S₃.moved T M''
    have E'' := E₃.moved M'' hn
    refine step v r ρ₃ H₃ hI A a s'' x S'' rx'' _ _ fun ρ' s₅ hb S₅ E₅ => ?_
    refine wpAny_mono (hb A a s₅ S₅) ?_ ?_
    · rintro f s₄ ⟨fl, ρ₄, H₄, q, rf, S₄, E₄⟩
      have E' := E''.trans (E₅.trans E₄)
      have st₄ : ∀ (hI' : Inv r ρ₄ H₄), St r H₄ s₄.heap := fun hI' => IT.frame _ _ _ _ _ st'' ((E₅.trans E₄).w S'') (hc _ _ _ hI')
      cases fl <;> cases f <;> first | exact rf.elim | skip
      · exact ⟨r.length + 1, by simp, r, ρ₄, H₄, rfl, q, S₄, E', st₄ q⟩
      · exact hPE _ _ ⟨.next, ρ₄, H₄, q, trivial, S₄, E'⟩
      · exact ⟨r.length + 1, by simp, r, ρ₄, H₄, rfl, q, S₄, E', st₄ q⟩
      · exact hPE _ _ ⟨.ret _, ρ₄, H₄, q, rf, S₄, E'⟩
    · rintro e s₄ ⟨v', ρ₄, H₄, ⟨x, c, d, rfl, hx, hR⟩, rv, S₄, E₄⟩
      cases rv
      have E' := E''.trans (E₅.trans E₄)
      refine note_W hA hC hf S₄.sim hx (fun T z => by cases z) fun s₆ T' nT S₆ E₆ => ?_
      have hne : T' ≠ x := fun z => by rw [z, hx] at nT; cases nT
      have h1 : ((H₄.set T' (.tb (some L))).set x (.exc c d (some T'))) x = some (.exc c d (some T')) := by simp [Hp.set]
      have h2 : ((H₄.set T' (.tb (some L))).set x (.exc c d (some T'))) T' = some (.tb (some L)) := by simp [Hp.set, hne]
      have hR' := hR T' nT hne
      have SL₆ := S₄.ext S₆ E₆
      exact hPX _ _ (back_W hf S₆ h1 h2 fun s₇ S₇ E₇ => ⟨.ref x, ρ₄, _, hR', .ref _, SL₆.ext S₇ E₇, E'.trans (E₆.trans E₇).toF⟩)
variable {QS : Fl → Rho → Hp → Prop} {RS : V → Rho → Hp → Prop}
theorem ExecW.for_inX {target iter body pos} (tup : Bool) (hd : C.hd = true) (ht : IsTupleE tup target) (hC : C.frs = some (env :: l)) (hf : env.frame = some L)
    (h : IterE C k env tup iter (fun items cond H₁ => ∃ Inv : List V → List (Str × V) → Hp → Prop, (∃ l, Inv items l H₁ ∧ Rho.sat l ρ) ∧ (∀ r l H, Inv r l H → cond H) ∧
      (∀ v r l H, Inv (v :: r) l H → AssignW C k env target v (fun ρ' => ExecsW C k env body (LoopQ (Inv r) QS) (LoopX L RS) ρ' H) (Rho.of l) H) ∧
      (∀ l H, Inv [] l H → QS .next (Rho.of l) H)) (fun v H' => RS v ρ H') ρ H)
    (hs : ∀ x, foldedSetIterable iter env x = pure x := by intro _; rfl) : ExecW C k env (.For target iter body [] pos) QS RS ρ H := fun A a s S => by
  refine wpAny_For ?_ hs
  refine h A a s S _ _ (fun _ _ p => p.toX S) ?_
  rintro I wr St items cond H₂ s₂ ⟨Inv, ⟨l', hi, hl⟩, hc, step, fin⟩ IT hcd st hn S₂ E₂
  refine for_coreX IT ht hd hC hf a (ρ := Rho.of l') (fun r ρ H => ∃ l, ρ = Rho.of l ∧ Inv r l H) (fun r ρ H ⟨l, _, h⟩ => hc r l H h) ?_ ?_ hn (fun f s' p => p) (fun e s' p => p) items s₂ ((S.ext S₂ E₂).weaken hl.le) E₂.toF st ⟨l', rfl, hi⟩
  · rintro v r ρ H ⟨l, rfl, hi⟩
    refine (step v r l H hi).conseq fun ρ' hb => hb.conseq fun fl ρ₁ H₁ q => ?_
    cases fl with
    | next => obtain ⟨l', i', s'⟩ := q; exact ⟨_, s'.le, l', rfl, i'⟩
    | cont => obtain ⟨l', i', s'⟩ := q; exact ⟨_, s'.le, l', rfl, i'⟩
    | brk => exact ⟨_, Rho.le_refl _, q⟩
    | ret u => exact ⟨_, Rho.le_refl _, q⟩
  · rintro ρ H ⟨l, rfl, hi⟩; exact fin l H hi
end
end Mine

set_option Elab.async false
set_option maxRecDepth 100000
set_option linter.unusedVariables false
namespace Mine
open PySem PySem.W PyProof.Rows Builtin Builtin.ObjectAttr
variable {C : Cx} {k : Nat} {K : Frag} {env : Env} {ρ : Rho} {H : Hp} {Q R : V → Hp → Prop}

section
variable {prog : Program} {w : World} {A : Around} {E : Value → Shared → Prop} {s : Shared} {e c : Addr} {ox : Obj} {od : Option Obj}
theorem exc_class {Q : Option Value → Shared → Prop} (hc : ExcOk K c) (ha : findIn K (.ref c) "__class__" = some (some (.builtin "object.__class__")))
    (hn : specialIn K (.builtin "object.__class__") "__get__" = some (some (.builtin "getset_descriptor.__get__"))) (htk : takesIn K (.builtin "object.__class__") = some true) (hm : mroIn K c (.type "object") = some true)
    (X : K.In s.heap) (I : InstAt s.heap e ox c od) (h : Q (some (.ref c)) { s with toks := s.toks + 1 }) : wpAny (model prog w) A (getAttr? (.ref e) "__class__") Q E s := by
  obtain ⟨cd, hcd, hh⟩ := any_some hc.mro
  simp only [Bool.and_eq_true] at hh
  have hf : findObj K c od "__class__" = some (.bind (.builtin "getset_descriptor.__get__") (.builtin "object.__class__")) := by
    unfold findObj
    rw [hcd, Option.bind_some, ha, Option.bind_some]
    simp [hn, htk]
  obtain ⟨rs, hm0⟩ := excMro_tail hh.2
  have ne : cd.mro.isEmpty = false := by rw [hm0]; cases rs <;> rfl
  have has : cd.mro.contains (.type "BaseException") = true := by rw [hm0]; simp
  obtain ⟨hp, g, dr, tk, os⟩ := s
  dsimp only at X I h
  have L0 := I.type (M := model prog w)
  have L1 := looks_findIn (M := model prog w) X hc.get
  have Lh : Looks (model prog w) hp (hookBefore (.ref c)) none := looks_hook X (by rw [if_pos (by rfl)]; exact hc.hook)
  have sub : Looks (model prog w) hp (isInstance (.ref e) (.type "BaseException")) true := L0.andThen (looks_mroIn X (by unfold mroIn; rw [hcd, Option.bind_some, if_neg (by rw [ne]; decide), has]))
  have FA := PySem.F.excAttr_ValueError
  unfold getAttr? getAttrBy? getAttrBy
  refine wpAny_bind (wpAny_mkText (wpAny_bind (wpAny_attempt (wpAny_holding (wpAny_bind (L0.at (wpAny_bind (L1.at ?_))))))))
  dsimp only
  rw [if_neg (by rw [show (Value.builtin "BaseException.__getattribute__" == Value.builtin "object.__getattribute__") = false from by decide +kernel, Bool.and_false]; decide)]
  refine wpAny_bind (Lh.at (wpAny_bind (wpAny_attempt (wpAny_holding ?_))))
  unfold callGetattribute
  rw [if_neg (by decide +kernel)]
  unfold boundAndCalled
  rw [FA.ga.bind]
  refine wpAny_bind (wpAny_pure ?_)
  refine wpAny_call ?_
  refine codeAny_call_builtin FA.ga.plain PySem.F.entry_bexc_ga ?_
  refine @check_slot (model prog w) _ _ ⟨hp, g, dr, tk + 1, os⟩ "BaseException.__getattribute__" "BaseException" "__getattribute__" (.ref e) [.str "__class__" tk] [] _ (by decide +kernel) (by decide +kernel) sub (PySem.F.args_bexc_ga (.ref e) (.str "__class__" tk)) ?_
  unfold Builtin.«object.__getattribute__»
  refine wpAny_bind (wpAny_pure (wpAny_bind (wpAny_pure (wpAny_bind (L0.at (wpAny_bind ((looks_find (M := model prog w) X I hf).at ?_)))))))
  show wpAny _ _ (holding [.builtin "object.__class__"] (call (.builtin "getset_descriptor.__get__") [.builtin "object.__class__", .ref e, .ref c]) >>= ret) _ _ _
  refine wpAny_bind (wpAny_holding (wpAny_call (class_get (s := ⟨hp, g, dr, tk + 1, os⟩) (ox := ox) (od := od) X I hm ?_)))
  refine wpAny_pure ?_
  show wpAny (model prog w) A (handedOut (.ref c)) _ _ _
  exact handed_on rfl (wpAny_pure h)
theorem kitx_exc (hc : ExcOk K c) (ha : findIn K (.ref c) "__class__" = some (some (.builtin "object.__class__")))
    (hn : specialIn K (.builtin "object.__class__") "__get__" = some (some (.builtin "getset_descriptor.__get__"))) (htk : takesIn K (.builtin "object.__class__") = some true) (hm : mroIn K c (.type "object") = some true) :
    KitX K (.ref e) (.ref c) (fun h => InstAt h e ox c od) where
  ty := fun _ _ _ I => I.type
  it := fun _ _ X _ => by
    obtain ⟨cdD, hcD, _⟩ := any_some hc.mro
    unfold clsIn at hcD
    split at hcD
    · rename_i c' d' cd' sl' ho
      intro A' Q' E' s' k q
      unfold isType loadHead
      exact wpAny_bind (wpAny_loadPart (k _ _ (X _ _ ho)) (wpAny_pure q))
    · cases hcD
  ne := fun h tp dd its n sl X htp => by
    obtain ⟨cdD, hcD, _⟩ := any_some hc.mro
    refine Bool.eq_false_iff.mpr fun q => ?_
    have e : c = tp := Value.ref.inj (beq_iff_eq.mp q)
    subst e
    unfold clsIn at hcD
    split at hcD
    · rename_i c' d' cd' sl' ho
      have z := (X _ _ ho).symm.trans htp
      cases z
    · cases hcD
  ca := fun X I k => exc_class hc ha hn htk hm X I k
end
theorem CallW.isi_exc (P : K.In C.base) {e c d : Addr} {T : Option Addr} {m : Str → Option V} {n : Nat} {cl : Value} {b : Bool} (hc : ExcOk K c) (ha : findIn K (.ref c) "__class__" = some (some (.builtin "object.__class__")))
    (hn : specialIn K (.builtin "object.__class__") "__get__" = some (some (.builtin "getset_descriptor.__get__"))) (htk : takesIn K (.builtin "object.__class__") = some true) (hm : mroIn K c (.type "object") = some true)
    (he : H e = some (.exc c (some d) T)) (hd : H d = some (.ns m n)) (hk : kitOne K (.ref c) cl = some b) (h : Q (.bool b) H) : CallW C k (.builtin "isinstance") [.ref e, .con cl] Q R H := fun A lv s xs S r => by
  cases r with
  | cons r r' =>
    cases r' with
    | cons r1 r' =>
      cases r'; cases r; cases r1
      obtain ⟨oe, vs, e1, e2, e3, e4, e5, e6⟩ := S.objs _ _ he
      obtain ⟨od, es, ep, eD, hdat, _⟩ := S.objs _ _ hd
      obtain ⟨c0, d0, dt, sl⟩ := oe
      dsimp only at e2 e3 e4
      subst e2 e3 e4
      have I : InstAt s.heap e ⟨.ref c, some d, .fields vs, sl⟩ c (some od) := ⟨e1, rfl, rfl, eD⟩
      exact kia_one (kitx_exc hc ha hn htk hm) (fun a o e => S.keep a o (P a o e)) I hk (by intro q; cases q) fun tk => Post.here h (S.toks _) (.bool _) rfl
theorem CallW.isi_exc0 (P : K.In C.base) {e c : Addr} {T : Option Addr} {cl : Value} {b : Bool} (hc : ExcOk K c) (ha : findIn K (.ref c) "__class__" = some (some (.builtin "object.__class__")))
    (hn : specialIn K (.builtin "object.__class__") "__get__" = some (some (.builtin "getset_descriptor.__get__"))) (htk : takesIn K (.builtin "object.__class__") = some true) (hm : mroIn K c (.type "object") = some true)
    (he : H e = some (.exc c none T)) (hk : kitOne K (.ref c) cl = some b) (h : Q (.bool b) H) : CallW C k (.builtin "isinstance") [.ref e, .con cl] Q R H := fun A lv s xs S r => by
  cases r with
  | cons r r' =>
    cases r' with
    | cons r1 r' =>
      cases r'; cases r; cases r1
      obtain ⟨oe, vs, e1, e2, e3, e4, e5, e6⟩ := S.objs _ _ he
      obtain ⟨c0, d0, dt, sl⟩ := oe
      dsimp only at e2 e3 e4
      subst e2 e3 e4
      have I : InstAt s.heap e ⟨.ref c, none, .fields vs, sl⟩ c none := ⟨e1, rfl, rfl, trivial⟩
      exact kia_one (kitx_exc hc ha hn htk hm) (fun a o e => S.keep a o (P a o e)) I hk (by intro q; cases q) fun tk => Post.here h (S.toks _) (.bool _) rfl
end Mine

set_option Elab.async false
set_option maxRecDepth 100000
set_option linter.unusedVariables false
namespace Mine
open PySem PySem.W PyProof.Rows
variable {C : Cx} {k : Nat} {K : Frag} {env : Env} {ρ : Rho} {H : Hp} {QS : Fl → Rho → Hp → Prop} {RS : V → Rho → Hp → Prop}
noncomputable def OnlyRet (PQ : V → Hp → Prop) : Fl → Rho → Hp → Prop := fun fl _ H => ∃ u, fl = .ret u ∧ PQ u H
theorem OnlyRet.here {PQ : V → Hp → Prop} {u : V} (h : PQ u H) : OnlyRet PQ (.ret u) ρ H := ⟨u, rfl, h⟩
end Mine

set_option Elab.async false
set_option maxRecDepth 100000
set_option linter.unusedVariables false
namespace Mine
open PySem PySem.W PyProof.Rows
variable {C : Cx} {k : Nat} {env : Env} {ρ : Rho} {H : Hp} {Q R : V → Hp → Prop}

theorem MethIs.insert {a : Addr} {l : List V} (ha : H a = some (.list l)) : MethIs C H (.ref a) "insert" (.builtin "list.insert") := MethIs.list ha F.slot_list_insert F.type_list_insert
theorem CallW.insert {a : Addr} {l : List V} {i : Nat} {v : V} (ha : H a = some (.list l)) (hi : i ≤ l.length) (hn : l.length ≤ 50000) (h : Q .none (H.set a (.list (l.take i ++ v :: l.drop i)))) : CallW C k (.builtin "list.insert") [.ref a, .int i, v] Q R H := fun A lv s xs S r => by
  cases r with
  | cons r1 r' => cases r' with
    | cons r2 r' => cases r' with
      | cons r3 r' =>
        cases r'; cases r1
        cases r2 with
        | int _ u =>
        rename_i y
        obtain ⟨xs, ⟨n, ho⟩, rl⟩ := S.objs _ _ ha
        have hz : xs.size = l.length := by have := rl.length; simpa using this
        have hs := sizeLine_eq
        obtain ⟨li, rfl⟩ : ∃ li : List Value, xs = li.toArray := ⟨xs.toList, by rw [Array.toArray_toList]⟩
        have hzl : li.length = l.length := by simpa using hz
        obtain ⟨S', E'⟩ := listUpd (l' := l.take i ++ v :: l.drop i) (f := fun xs => have k := if (i : Int) < 0 then ((i : Int) + (xs.size : Int)).toNat else min (i : Int).toNat xs.size; (xs.extract 0 k).push y ++ xs.extract k) S ha ho fun h' H' E => by
          have e0 : (if (i : Int) < 0 then ((i : Int) + (li.toArray.size : Int)).toNat else min (i : Int).toNat li.toArray.size) = i := by
            rw [if_neg (by omega)]; simp; omega
          show VRelL h' H' _ ((li.toArray.extract 0 (if (i : Int) < 0 then ((i : Int) + (li.toArray.size : Int)).toNat else min (i : Int).toNat li.toArray.size)).push y ++ li.toArray.extract (if (i : Int) < 0 then ((i : Int) + (li.toArray.size : Int)).toNat else min (i : Int).toNat li.toArray.size)).toList
          rw [e0, kl_ins_eq]
          exact ((rl.extV E).take i).append (.cons (r3.extV E) ((rl.extV E).drop i))
        have hf : ¬(!Builtin.List.listFitsIndex (i : Int)) = true := by
          have : Builtin.List.listFitsIndex (i : Int) = true := by
            unfold Builtin.List.listFitsIndex; simp; omega
          simp [this]
        have hzz : li.toArray.size ≤ sizeLine := by rw [List.size_toArray]; omega
        generalize hii : (i : Int) = ii at hf S' E'
        have Mt := PySem.AutoSeq1.list_insert_list_int_val_1 a li.toArray n ii u y hf hzz
        exact call_meets F.slot_list_insert ⟨_, ho, rfl⟩ F.entry_list_insert (F.args_list_insert_3 _ _ _) Mt ⟨ho, ⟨.none, _, h, S', .none, E'⟩⟩
theorem CallW.tupleOf {v : V} {l : List V} (hl : lview H v = some l) (hn : l.length ≤ 100000) (h : Q (.tup l) H) : CallW C k (.type "tuple") [v] Q R H := fun A a s xs S r => by
  cases r with
  | cons r r' =>
    cases r'
    obtain ⟨ad, ys, rfl, hL, rl⟩ := lview_list hl S r
    have hz : ys.size = l.length := by have := rl.length; simpa using this
    refine call_tuple_list (hsz := by rw [hz]; exact Nat.le_trans hn (by decide)) hL fun h' hk => ?_
    have hk2 : ∀ b o, s.heap.get? b = some o → (h'.push { cls := .type "tuple", data := .seq ys }).get? b = some o := fun b o e => Heap.get?_push_of_some _ (hk b o e)
    have S1 : Sim C H { s with heap := h' } := S.grown hk rfl rfl
    exact ⟨.tup l, H, h, S.grown (s' := { s with heap := h'.push _ }) hk2 rfl rfl, .tup ⟨_, Heap.get?_push_size _ rfl, rfl, _, rfl⟩ (S1.fresh (Nat.le_refl _)) (rl.ext (Ext.grown hk2)), Ext.grown hk2⟩
theorem BinW.pow {a b : Int} (hb : 0 < b) (ha : 1 < a) (hz : Builtin.Int.intTooBig (((Builtin.Int.intBits a : Nat) : Int) * b) = false) (h : Q (.int (a ^ b.toNat)) H) : BinW C k .Pow (.int a) (.int b) Q R H := fun A lv s x y S r1 r2 => by
  cases r1; cases r2
  refine AutoIntOps.pow_4 (by omega) (by simp; omega) (by simp; omega) (by simp; omega) (by rw [hz]; decide) ?_
  exact Post.here h (S.toks _) (.int _ _) rfl
end Mine

set_option Elab.async false
set_option linter.unusedVariables false
namespace Mine

inductive LW where
  | ask | freed | back
  deriving DecidableEq
abbrev Lt := LW × Nat × Nat

structure HandM where
  num : Nat
  asker : Bool
  wait : Option (Bool × List Nat)
  freed : Bool
  has : Bool
  askers : List Nat
  heard : List Nat
  owed : Int
  waker : Option Nat
noncomputable def HandM.others (m : HandM) : List Nat := match m.wait with
  | none => []
  | some (_, l) => l
noncomputable def HandM.isAll (m : HandM) : Bool := match m.wait with
  | some (true, _) => true
  | _ => false
noncomputable def initM (num : Nat) (w : Option (Bool × List Nat)) (b : Bool) : HandM := ⟨num, b, w, w.isNone, false, [], [], 0, none⟩
noncomputable def sendM (m : HandM) (w : LW) (l : List Nat) : HandM × List Lt := ({ m with owed := m.owed + l.length }, l.map fun x => (w, m.num, x))
noncomputable def beginM (m : HandM) : HandM × List Lt := if m.freed = true then (m, []) else sendM { m with has := true } .ask m.others
noncomputable def askedM (m : HandM) (s : Nat) : HandM × List Lt :=
  if m.freed = true then sendM m .freed [s] else if m.has = true then ({ m with askers := m.askers ++ [s] }, []) else beginM { m with askers := m.askers ++ [s] }
noncomputable def toldM (m : HandM) (s : Nat) : HandM × List Lt :=
  if m.freed = true then ({ m with heard := s :: m.heard }, [])
  else if m.isAll && !(m.others.all fun o => decide (o ∈ s :: m.heard)) then ({ m with heard := s :: m.heard }, [])
  else sendM { m with heard := s :: m.heard, freed := true } .freed m.askers
noncomputable def wakeM (m : HandM) (w : LW) (s : Nat) : HandM × List Lt :=
  if w = .back then ({ m with owed := m.owed - 1 }, []) else if m.asker || m.waker.isSome then (m, [(.back, m.num, s)]) else ({ m with waker := some s }, [])
noncomputable def midM (m : HandM) (w : LW) (s : Nat) : HandM × List Lt := match w with
  | .ask => askedM m s
  | .freed => toldM m s
  | .back => (m, [])
noncomputable def endM (m : HandM) (fl : List Lt) : HandM × List Lt := match m.waker with
  | some u => if m.owed = 0 then ({ m with waker := none }, fl ++ [(.back, m.num, u)]) else (m, fl)
  | none => (m, fl)
noncomputable def comeM (m : HandM) (w : LW) (s : Nat) : HandM × List Lt :=
  endM (midM (wakeM m w s).1 w s).1 ((wakeM m w s).2 ++ (midM (wakeM m w s).1 w s).2)

structure NetM where
  hands : Nat → HandM
  row : List Lt
  many : Nat
noncomputable def upd {α : Type} (f : Nat → α) (i : Nat) (x : α) : Nat → α := fun j => if j = i then x else f j
noncomputable def startM (W : List (Option (Bool × List Nat))) (asker : Nat) : Nat → HandM := fun k => initM k (W.getD k none) (decide (k = asker))
noncomputable def netM (W : List (Option (Bool × List Nat))) (asker : Nat) : NetM :=
  let p := beginM (startM W asker asker)
  ⟨upd (startM W asker) asker p.1, p.2, p.2.length⟩
noncomputable def bringM (N : NetM) (p : Nat) : NetM × List Lt := match N.row[p]? with
  | none => (N, [])
  | some (w, s, r) =>
    let q := comeM (N.hands r) w s
    (⟨upd N.hands r q.1, N.row.eraseIdx p ++ q.2, N.many + q.2.length⟩, q.2)

/- what stays in a hand -/
structure Same (m m' : HandM) : Prop where
  num : m'.num = m.num
  asker : m'.asker = m.asker
  wait : m'.wait = m.wait
theorem Same.refl (m : HandM) : Same m m := ⟨rfl, rfl, rfl⟩
theorem Same.trans {a b c : HandM} (x : Same a b) (y : Same b c) : Same a c := ⟨y.num.trans x.num, y.asker.trans x.asker, y.wait.trans x.wait⟩
theorem begin_same (m) : Same m (beginM m).1 := by unfold beginM; split <;> exact ⟨rfl, rfl, rfl⟩
theorem asked_same (m s) : Same m (askedM m s).1 := by
  unfold askedM; split
  · exact ⟨rfl, rfl, rfl⟩
  · split
    · exact ⟨rfl, rfl, rfl⟩
    · have := begin_same { m with askers := m.askers ++ [s] }; exact ⟨this.num, this.asker, this.wait⟩
theorem told_same (m s) : Same m (toldM m s).1 := by
  unfold toldM; split
  · exact ⟨rfl, rfl, rfl⟩
  · split <;> exact ⟨rfl, rfl, rfl⟩
theorem wake_same (m w s) : Same m (wakeM m w s).1 := by
  unfold wakeM; split
  · exact ⟨rfl, rfl, rfl⟩
  · split <;> exact ⟨rfl, rfl, rfl⟩
theorem mid_same (m w s) : Same m (midM m w s).1 := by
  cases w
  · exact asked_same m s
  · exact told_same m s
  · exact .refl m
theorem end_same (m fl) : Same m (endM m fl).1 := by
  unfold endM; split
  · split <;> exact ⟨rfl, rfl, rfl⟩
  · exact .refl m
theorem come_same (m w s) : Same m (comeM m w s).1 := ((wake_same m w s).trans (mid_same _ w s)).trans (end_same _ _)
theorem Same.others {m m' : HandM} (h : Same m m') : m'.others = m.others := by unfold HandM.others; rw [h.wait]

/- sizes -/
theorem begin_sizes (m) : (beginM m).1.askers = m.askers ∧ (beginM m).1.heard = m.heard ∧ (beginM m).2.length ≤ m.others.length := by
  unfold beginM; split
  · exact ⟨rfl, rfl, Nat.zero_le _⟩
  · exact ⟨rfl, rfl, by simp [sendM]⟩
theorem mid_sizes (m w s) : (midM m w s).1.askers.length ≤ m.askers.length + 1 ∧ (midM m w s).1.heard.length ≤ m.heard.length + 1 ∧ (midM m w s).2.length ≤ m.others.length + m.askers.length + 1 := by
  cases w
  · show (askedM m s).1.askers.length ≤ _ ∧ (askedM m s).1.heard.length ≤ _ ∧ (askedM m s).2.length ≤ _
    unfold askedM; split
    · exact ⟨Nat.le_succ _, Nat.le_succ _, by simp [sendM]⟩
    · split
      · exact ⟨by simp, Nat.le_succ _, Nat.zero_le _⟩
      · have := begin_sizes { m with askers := m.askers ++ [s] }
        refine ⟨by rw [this.1]; simp, by rw [this.2.1]; exact Nat.le_succ _, ?_⟩
        have h := this.2.2
        show _ ≤ _
        have e : HandM.others { m with askers := m.askers ++ [s] } = m.others := rfl
        rw [e] at h; omega
  · show (toldM m s).1.askers.length ≤ _ ∧ (toldM m s).1.heard.length ≤ _ ∧ (toldM m s).2.length ≤ _
    unfold toldM; split
    · exact ⟨Nat.le_succ _, by simp, Nat.zero_le _⟩
    · split
      · exact ⟨Nat.le_succ _, by simp, Nat.zero_le _⟩
      · exact ⟨Nat.le_succ _, by simp [sendM], by simp [sendM]; omega⟩
  · exact ⟨Nat.le_succ _, Nat.le_succ _, Nat.zero_le _⟩
theorem wake_sizes (m w s) : (wakeM m w s).1.askers = m.askers ∧ (wakeM m w s).1.heard = m.heard ∧ (wakeM m w s).2.length ≤ 1 := by
  unfold wakeM; split
  · exact ⟨rfl, rfl, Nat.zero_le _⟩
  · split
    · exact ⟨rfl, rfl, Nat.le_refl _⟩
    · exact ⟨rfl, rfl, Nat.zero_le _⟩
theorem end_sizes (m fl) : (endM m fl).1.askers = m.askers ∧ (endM m fl).1.heard = m.heard ∧ (endM m fl).2.length ≤ fl.length + 1 := by
  unfold endM; split
  · split
    · exact ⟨rfl, rfl, by simp⟩
    · exact ⟨rfl, rfl, Nat.le_succ _⟩
  · exact ⟨rfl, rfl, Nat.le_succ _⟩
theorem come_sizes (m w s) : (comeM m w s).1.askers.length ≤ m.askers.length + 1 ∧ (comeM m w s).1.heard.length ≤ m.heard.length + 1 ∧ (comeM m w s).2.length ≤ m.others.length + m.askers.length + 3 := by
  unfold comeM
  obtain ⟨a1, a2, a3⟩ := wake_sizes m w s
  obtain ⟨b1, b2, b3⟩ := mid_sizes (wakeM m w s).1 w s
  obtain ⟨c1, c2, c3⟩ := end_sizes (midM (wakeM m w s).1 w s).1 ((wakeM m w s).2 ++ (midM (wakeM m w s).1 w s).2)
  rw [a1] at b1 b3
  rw [a2] at b2
  have e := (wake_same m w s).others
  rw [e] at b3
  refine ⟨by rw [c1]; exact b1, by rw [c2]; exact b2, ?_⟩
  rw [List.length_append] at c3
  omega

/- the letters that leave -/
theorem begin_out {m t} (h : t ∈ (beginM m).2) : t.2.1 = m.num ∧ t.1 = .ask ∧ t.2.2 ∈ m.others := by
  unfold beginM at h; split at h
  · cases h
  · simp only [sendM, List.mem_map] at h
    obtain ⟨x, hx, rfl⟩ := h
    exact ⟨rfl, rfl, hx⟩
theorem mid_out {m w s t} (h : t ∈ (midM m w s).2) : t.2.1 = m.num ∧ t.1 ≠ .back ∧ (t.2.2 = s ∨ t.2.2 ∈ m.others ∨ t.2.2 ∈ m.askers) := by
  cases w
  · change t ∈ (askedM m s).2 at h
    unfold askedM at h; split at h
    · simp [sendM] at h; subst h; exact ⟨rfl, by simp, .inl rfl⟩
    · split at h
      · cases h
      · obtain ⟨a, b, c⟩ := begin_out h
        exact ⟨a, by rw [b]; simp, .inr (.inl c)⟩
  · change t ∈ (toldM m s).2 at h
    unfold toldM at h; split at h
    · cases h
    · split at h
      · cases h
      · simp only [sendM, List.mem_map] at h
        obtain ⟨x, hx, rfl⟩ := h
        exact ⟨rfl, by simp, .inr (.inr hx)⟩
  · cases h
theorem mid_askers {m w s x} (h : x ∈ (midM m w s).1.askers) : x = s ∨ x ∈ m.askers := by
  cases w
  · change x ∈ (askedM m s).1.askers at h
    unfold askedM at h; split at h
    · exact .inr h
    · split at h
      · simp at h; exact h.symm
      · rw [(begin_sizes _).1] at h; simp at h; exact h.symm
  · change x ∈ (toldM m s).1.askers at h
    unfold toldM at h; split at h
    · exact .inr h
    · split at h <;> exact .inr h
  · exact .inr h
theorem mid_waker (m w s) : (midM m w s).1.waker = m.waker := by
  cases w
  · show (askedM m s).1.waker = _
    unfold askedM; split
    · rfl
    · split
      · rfl
      · unfold beginM; split <;> rfl
  · show (toldM m s).1.waker = _
    unfold toldM; split
    · rfl
    · split <;> rfl
  · rfl
theorem wake_out {m w s t} (h : t ∈ (wakeM m w s).2) : t = (.back, m.num, s) ∧ w ≠ .back := by
  unfold wakeM at h; split at h
  · cases h
  · rename_i hw
    split at h
    · simp at h; exact ⟨h, hw⟩
    · cases h
theorem wake_waker {m w s u} (h : (wakeM m w s).1.waker = some u) : m.waker = some u ∨ (u = s ∧ w ≠ .back ∧ m.asker = false ∧ m.waker = none) := by
  unfold wakeM at h; split at h
  · exact .inl h
  · rename_i hw
    split at h
    · exact .inl h
    · rename_i h2
      simp only [Bool.or_eq_true, not_or, Bool.not_eq_true, Option.isSome_eq_false_iff, Option.isNone_iff_eq_none] at h2
      simp at h
      exact .inr ⟨h.symm, hw, h2.1, h2.2⟩
theorem end_out {m fl t} (h : t ∈ (endM m fl).2) : t ∈ fl ∨ ∃ u, m.waker = some u ∧ t = (.back, m.num, u) := by
  unfold endM at h; split at h
  · rename_i u hu
    split at h
    · rcases List.mem_append.mp h with q | q
      · exact .inl q
      · simp at q; exact .inr ⟨u, hu, q⟩
    · exact .inl h
  · exact .inl h
theorem come_out {m w s t} (h : t ∈ (comeM m w s).2) : t.2.1 = m.num ∧ (t.2.2 = s ∨ t.2.2 ∈ m.others ∨ t.2.2 ∈ m.askers ∨ m.waker = some t.2.2) := by
  unfold comeM at h
  rcases end_out h with q | ⟨u, hu, rfl⟩
  · rcases List.mem_append.mp q with q | q
    · rw [(wake_out q).1]; exact ⟨rfl, .inl rfl⟩
    · obtain ⟨a, b, c⟩ := mid_out q
      rw [(wake_same m w s).num] at a
      rw [(wake_same m w s).others, (wake_sizes m w s).1] at c
      exact ⟨a, by rcases c with c | c | c <;> simp [c]⟩
  · rw [mid_waker] at hu
    refine ⟨by rw [(mid_same _ w s).num, (wake_same m w s).num], ?_⟩
    rcases wake_waker hu with q | ⟨rfl, _⟩
    · exact .inr (.inr (.inr q))
    · exact .inl rfl
theorem come_askers {m w s x} (h : x ∈ (comeM m w s).1.askers) : x = s ∨ x ∈ m.askers := by
  unfold comeM at h
  rw [(end_sizes _ _).1] at h
  rcases mid_askers h with q | q
  · exact .inl q
  · rw [(wake_sizes m w s).1] at q; exact .inr q
end Mine

set_option Elab.async false
set_option linter.unusedVariables false
namespace Mine
open PySem PySem.W PyProof.Rows

noncomputable def LW.str : LW → Str
  | .ask => Str.ofString "ask"
  | .freed => Str.ofString "freed"
  | .back => Str.ofString "back"
noncomputable def lv : Lt → V
  | (w, a, b) => .tup [.str w.str, nv a, nv b]

noncomputable def HandM.word (m : HandM) : Str := match m.wait with
  | none => Str.ofString ""
  | some (b, _) => Str.ofString (if b = true then "all" else "any")
structure HA where
  i : Addr
  d : Addr
  a : Addr
  h : Addr
noncomputable def handNames : List Str := [Str.ofString "number", Str.ofString "is_asker", Str.ofString "is_freed", Str.ofString "word", Str.ofString "others", Str.ofString "has_asked", Str.ofString "askers", Str.ofString "heard", Str.ofString "owed", Str.ofString "waker"]
noncomputable def attrs (A : HA) (m : HandM) : List (Str × V) := [(Str.ofString "number", .int ((m.num : Nat) : Int)), (Str.ofString "is_asker", .bool m.asker), (Str.ofString "is_freed", .bool m.freed), (Str.ofString "word", .str m.word), (Str.ofString "others", .lst (m.others.map nv)),
  (Str.ofString "has_asked", .bool m.has), (Str.ofString "askers", .ref A.a), (Str.ofString "heard", .ref A.h), (Str.ofString "owed", .int m.owed), (Str.ofString "waker", ov m.waker)]
noncomputable def heardM (l : List Nat) : Int → Option V := fun i => if 0 ≤ i ∧ i.toNat ∈ l then some (.bool true) else none

structure HandRep (c : Addr) (H : Hp) (A : HA) (m : HandM) : Prop where
  i : H A.i = some (.inst c A.d)
  d : H A.d = some (.ns (Rho.of (attrs A m)) 10)
  a : H A.a = some (.list (m.askers.map nv))
  h : H A.h = some (.dictI (heardM m.heard) m.heard.length)

structure HandCls (K : Frag) (c : Addr) : Prop where
  ok : ClsOk K c
  names : (handNames.all fun x => findIn K (.ref c) x == some none) = true

noncomputable def HFrame (H H' : Hp) (A : HA) : Prop := ∀ b o, H b = some o → b ≠ A.d → b ≠ A.a → b ≠ A.h → H' b = some o

theorem Hp.ne {H : Hp} {a b : Addr} {o : O} (ha : H a = some o) (hb : H b = none) : a ≠ b := fun e => by subst e; rw [ha] at hb; cases hb
theorem Hp.ne' {H : Hp} {a b : Addr} {o o' : O} (ha : H a = some o) (hb : H b = some o') (h : o ≠ o') : a ≠ b := fun e => by subst e; rw [ha] at hb; cases hb; exact h rfl

variable {C : Cx} {k : Nat} {K : Frag} {env : Env} {ρ : Rho} {H H' : Hp} {Q R : V → Hp → Prop} {QH : Hp → Prop} {c : Addr} {A : HA} {m m' : HandM}

theorem HandRep.nid (r : HandRep c H A m) : A.i ≠ A.d := Hp.ne' r.i r.d (by simp)
theorem HandRep.nia (r : HandRep c H A m) : A.i ≠ A.a := Hp.ne' r.i r.a (by simp)
theorem HandRep.nih (r : HandRep c H A m) : A.i ≠ A.h := Hp.ne' r.i r.h (by simp)
theorem HandRep.nda (r : HandRep c H A m) : A.d ≠ A.a := Hp.ne' r.d r.a (by simp)
theorem HandRep.ndh (r : HandRep c H A m) : A.d ≠ A.h := Hp.ne' r.d r.h (by simp)
theorem HandRep.nah (r : HandRep c H A m) : A.a ≠ A.h := Hp.ne' r.a r.h (by simp)

theorem HandRep.le (r : HandRep c H A m) (h : Hp.le H H') : HandRep c H' A m := ⟨h _ _ r.i, h _ _ r.d, h _ _ r.a, h _ _ r.h⟩
theorem HandRep.fresh {x : Addr} {o : O} (r : HandRep c H A m) (hx : H x = none) : HandRep c (H.set x o) A m := r.le (Hp.le_set hx)
theorem HandRep.other {x : Addr} {o : O} (r : HandRep c H A m) (h1 : A.i ≠ x) (h2 : A.d ≠ x) (h3 : A.a ≠ x) (h4 : A.h ≠ x) : HandRep c (H.set x o) A m :=
  ⟨(Hp.set_ne h1).trans r.i, (Hp.set_ne h2).trans r.d, (Hp.set_ne h3).trans r.a, (Hp.set_ne h4).trans r.h⟩
theorem HandRep.list {x : Addr} {l l' : List V} (r : HandRep c H A m) (hx : H x = some (.list l)) (hn : x ≠ A.a) : HandRep c (H.set x (.list l')) A m :=
  r.other (Hp.ne' r.i hx (by simp)) (Hp.ne' r.d hx (by simp)) hn.symm (Hp.ne' r.h hx (by simp))
theorem HandRep.lk {x : Addr} {l : List V} (r : HandRep c H A m) (hx : H x = some (.list l)) : x ≠ A.d ∧ x ≠ A.h ∧ x ≠ A.i :=
  ⟨(Hp.ne' r.d hx (by simp)).symm, (Hp.ne' r.h hx (by simp)).symm, (Hp.ne' r.i hx (by simp)).symm⟩

theorem HFrame.refl (H : Hp) (A : HA) : HFrame H H A := fun _ _ e _ _ _ => e
theorem HFrame.trans {H'' : Hp} (x : HFrame H H' A) (y : HFrame H' H'' A) : HFrame H H'' A := fun b o e n1 n2 n3 => y b o (x b o e n1 n2 n3) n1 n2 n3
theorem HFrame.set {x : Addr} {o : O} (h : HFrame H H' A) (hx : H x = none) : HFrame H (H'.set x o) A := fun b ob e n1 n2 n3 => by
  rw [Hp.set_ne (Hp.ne e hx)]; exact h b ob e n1 n2 n3
theorem HFrame.but (h : HFrame H H' A) {H'' : Hp} {x : Addr} (e : ∀ b, b ≠ x → H'' b = H' b) (hx : x = A.d ∨ x = A.a ∨ x = A.h) : HFrame H H'' A := fun b ob eb n1 n2 n3 => by
  rw [e b (by rcases hx with q | q | q <;> rw [q] <;> assumption)]; exact h b ob eb n1 n2 n3

theorem HandCls.name (hc : HandCls K c) {x : Str} (hx : x ∈ handNames) : findIn K (.ref c) x = some none := by
  have := List.all_eq_true.mp hc.names x hx
  simpa using this
theorem HandRep.get (P : PCx C K) (hc : HandCls K c) (r : HandRep c H A m) {name : Str} {v : V} (hn : name ∈ handNames) (hm : Rho.of (attrs A m) name = some v) (hv : v.plain = true) (h : Q v H) : AttrW C k (.ref A.i) name Q R H :=
  AttrW.inst P hc.ok r.i r.d hm (hc.name hn) hv h
theorem HandRep.put (P : PCx C K) (hc : HandCls K c) (r : HandRep c H A m) {name : Str} {u : V} (m' : HandM) (hn : name ∈ handNames) (hl : (Rho.of (attrs A m) name).isSome = true) (e : putL (attrs A m) name u = attrs A m')
    (ha : m'.askers = m.askers) (hh : m'.heard = m.heard) (h : ∀ H', HandRep c H' A m' → (∀ b, b ≠ A.d → H' b = H b) → QH H') : SetAttrW C k (.ref A.i) name u QH R H := by
  refine SetAttrW.inst P hc.ok r.i r.d (hc.name hn) (by decide) hl ?_
  rw [e]
  refine h _ ⟨(Hp.set_ne r.nid).trans r.i, Hp.set_self .., ?_, ?_⟩ fun b hb => Hp.set_ne hb
  · rw [Hp.set_ne r.nda.symm, ha]; exact r.a
  · rw [Hp.set_ne r.ndh.symm, hh]; exact r.h

/- in the same form for each attribute that is stored -/
theorem attrs_owed (x : Int) : putL (attrs A m) (Str.ofString "owed") (.int x) = attrs A { m with owed := x } := by with_unfolding_all rfl
theorem attrs_waker (x : Option Nat) : putL (attrs A m) (Str.ofString "waker") (ov x) = attrs A { m with waker := x } := by with_unfolding_all rfl
theorem attrs_has (x : Bool) : putL (attrs A m) (Str.ofString "has_asked") (.bool x) = attrs A { m with has := x } := by with_unfolding_all rfl
theorem attrs_freed (x : Bool) : putL (attrs A m) (Str.ofString "is_freed") (.bool x) = attrs A { m with freed := x } := by with_unfolding_all rfl
theorem HandRep.putOwed (P : PCx C K) (hc : HandCls K c) (r : HandRep c H A m) (x : Int) (h : ∀ H', HandRep c H' A { m with owed := x } → (∀ b, b ≠ A.d → H' b = H b) → QH H') : SetAttrW C k (.ref A.i) (Str.ofString "owed") (.int x) QH R H :=
  r.put P hc { m with owed := x } (by simp [handNames]) (by with_unfolding_all rfl) (attrs_owed x) rfl rfl h
theorem HandRep.putWaker (P : PCx C K) (hc : HandCls K c) (r : HandRep c H A m) (x : Option Nat) (h : ∀ H', HandRep c H' A { m with waker := x } → (∀ b, b ≠ A.d → H' b = H b) → QH H') : SetAttrW C k (.ref A.i) (Str.ofString "waker") (ov x) QH R H :=
  r.put P hc { m with waker := x } (by simp [handNames]) (by with_unfolding_all rfl) (attrs_waker x) rfl rfl h
theorem HandRep.putHas (P : PCx C K) (hc : HandCls K c) (r : HandRep c H A m) (x : Bool) (h : ∀ H', HandRep c H' A { m with has := x } → (∀ b, b ≠ A.d → H' b = H b) → QH H') : SetAttrW C k (.ref A.i) (Str.ofString "has_asked") (.bool x) QH R H :=
  r.put P hc { m with has := x } (by simp [handNames]) (by with_unfolding_all rfl) (attrs_has x) rfl rfl h
theorem HandRep.putFreed (P : PCx C K) (hc : HandCls K c) (r : HandRep c H A m) (x : Bool) (h : ∀ H', HandRep c H' A { m with freed := x } → (∀ b, b ≠ A.d → H' b = H b) → QH H') : SetAttrW C k (.ref A.i) (Str.ofString "is_freed") (.bool x) QH R H :=
  r.put P hc { m with freed := x } (by simp [handNames]) (by with_unfolding_all rfl) (attrs_freed x) rfl rfl h

theorem HandRep.meth (P : PCx C K) (hc : HandCls K c) (r : HandRep c H A m) {name : Str} {f : Addr} (hm : Rho.of (attrs A m) name = none) (hf : findIn K (.ref c) name = some (some (.ref f))) (ht : typeIn K (.ref f) = some (.type "function")) : MethIs C H (.ref A.i) name (.ref f) :=
  MethIs.own P hc.ok r.i r.d hm hf ht

noncomputable def Out (c : Addr) (H : Hp) (A : HA) (p : HandM × List Lt) (Q : V → Hp → Prop) : Prop :=
  ∀ H' x, HandRep c H' A p.1 → H' x = some (.list (p.2.map lv)) → H x = none → HFrame H H' A → Q (.ref x) H'
noncomputable def HOk (m : HandM) : Prop := m.askers.length ≤ 400 ∧ m.heard.length ≤ 400 ∧ m.others.length ≤ 400

noncomputable def S_send (c : Addr) : SpecT := fun args Q R H => ∃ (A : HA) (m : HandM) (w : LW) (l : List Nat) (hv : V), args = [.ref A.i, .str w.str, hv] ∧ HandRep c H A m ∧ lview H hv = some (l.map nv) ∧ l.length ≤ 400 ∧ Out c H A (sendM m w l) Q
noncomputable def S_begin (c : Addr) : SpecT := fun args Q R H => ∃ (A : HA) (m : HandM), args = [.ref A.i] ∧ HandRep c H A m ∧ m.others.length ≤ 400 ∧ Out c H A (beginM m) Q
noncomputable def S_asked (c : Addr) : SpecT := fun args Q R H => ∃ (A : HA) (m : HandM) (s : Nat), args = [.ref A.i, nv s] ∧ HandRep c H A m ∧ HOk m ∧ Out c H A (askedM m s) Q
noncomputable def S_told (c : Addr) : SpecT := fun args Q R H => ∃ (A : HA) (m : HandM) (s : Nat), args = [.ref A.i, nv s] ∧ HandRep c H A m ∧ HOk m ∧ Out c H A (toldM m s) Q
noncomputable def S_come (c : Addr) : SpecT := fun args Q R H => ∃ (A : HA) (m : HandM) (w : LW) (s r : Nat), args = [.ref A.i, lv (w, s, r)] ∧ HandRep c H A m ∧ HOk m ∧ Out c H A (comeM m w s) Q
noncomputable def S_init (c : Addr) : SpecT := fun args Q R H => ∃ (x d : Addr) (num : Nat) (w : Wt) (b : Bool), args = [.ref x, nv num, wv w, .bool b] ∧ H x = some (.inst c d) ∧ H d = some (.ns (Rho.of []) 0) ∧ (initM num w b).others.length ≤ 400 ∧
  ∀ H' A, A.i = x → A.d = d → HandRep c H' A (initM num w b) → H A.a = none → H A.h = none → (∀ b o, H b = some o → b ≠ d → H' b = some o) → Q .none H'

theorem lview_keep {v : V} {l : List V} {x : Addr} (hv : lview H v = some l) (e : ∀ b, b ≠ x → H' b = H b) (hx : ∀ l, H x ≠ some (.list l)) : lview H' v = some l := by
  cases v with
  | ref a =>
    have : a ≠ x := fun q => by
      subst q
      unfold lview at hv
      dsimp only at hv
      split at hv
      · rename_i l' e'; exact hx _ e'
      · cases hv
    simp only [lview, e a this] at hv ⊢; exact hv
  | _ => exact hv
theorem heardM_cons (l : List Nat) (s : Nat) : (fun x => if x = ((s : Nat) : Int) then some (V.bool true) else heardM l x) = heardM (s :: l) := by
  funext x
  unfold heardM
  by_cases h : x = (s : Int)
  · subst h; simp
  · simp only [h, if_false, List.mem_cons]
    by_cases h0 : 0 ≤ x
    · have : ¬ x.toNat = s := fun q => h (by omega)
      simp [this]
    · simp [h0]
theorem heardM_some (l : List Nat) (n : Nat) : (heardM l ((n : Nat) : Int)).isSome = decide (n ∈ l) := by
  unfold heardM
  by_cases h : n ∈ l
  · simp [h]
  · simp [h]
end Mine

set_option linter.unusedVariables false
namespace Mine

/- rounds, exactly -/
end Mine

set_option linter.unusedVariables false
namespace Mine
end Mine

set_option Elab.async false
set_option linter.unusedVariables false
namespace Mine
open PySem PySem.W PyProof.Rows

variable {C : Cx} {k : Nat} {env : Env} {ρ : Rho} {H : Hp} {Q R : V → Hp → Prop}
end Mine

set_option linter.unusedVariables false
namespace Mine
open PySem PySem.W PyProof.Rows
variable {C : Cx} {k : Nat} {env : Env} {ρ : Rho} {H : Hp} {Q R : V → Hp → Prop}

theorem CallW.listCopyF {v : V} {l : List V} (hl : lview H v = some l) (hn : l.length ≤ 100000) (h : Q (.lst l) H) : CallW C k (.type "list") [v] Q R H := fun A a s xs S r => by
  refine wpAny_mono (CallW.listCopy (C := C) (k := k) (Q := fun v H' => ∃ a, v = .ref a ∧ H a = Option.none ∧ H' = H.set a (.list l)) (R := R) hl hn (fun a ha => ⟨a, rfl, ha, rfl⟩) A a s xs S r) ?_ fun _ _ p => p
  rintro x s' ⟨v', H', ⟨b, rfl, hb, rfl⟩, S', r', E'⟩
  obtain ⟨S3, r3⟩ := (fz_new (acc := l) hb).2 C s' x S' r'
  exact ⟨.lst l, H, h, S3, r3, ⟨E'.keep, fun c o e n => n, E'.live⟩⟩

/- lists of rounds -/
/- a whole turn of all hands -/
end Mine

set_option Elab.async false
set_option linter.unusedVariables false
namespace Mine
open PySem PySem.W PyProof.Rows
variable {C : Cx} {k : Nat} {K : Frag} {env : Env} {ρ : Rho} {H H' : Hp} {Q R : V → Hp → Prop} {QH : Hp → Prop} {c : Addr} {A : HA} {m m' : HandM}

theorem gAt {v name} (h : AttrW C k v name Q R H) : AttrW C k v name Q R H := h

theorem str_back (w : LW) : (w.str == Str.ofString "back") = decide (w = .back) := by cases w <;> with_unfolding_all rfl
theorem str_ask (w : LW) : (w.str == Str.ofString "ask") = decide (w = .ask) := by cases w <;> with_unfolding_all rfl
theorem str_freed (w : LW) : (w.str == Str.ofString "freed") = decide (w = .freed) := by cases w <;> with_unfolding_all rfl
theorem word_all (m : HandM) : (m.word == Str.ofString "all") = m.isAll := by
  unfold HandM.word HandM.isAll
  rcases m.wait with _ | ⟨_ | _, l⟩ <;> with_unfolding_all rfl
theorem ov_notCon (o : Option Nat) : (ov o).notCon := by cases o <;> trivial
theorem ov_isNone (o : Option Nat) : (ov o).isNone = o.isNone := by cases o <;> rfl
theorem ov_plain (o : Option Nat) : (ov o).plain = true := by cases o <;> rfl

theorem HandRep.keep {x : Addr} {l : List V} (r : HandRep c H A m) (hx : H x = some (.list l)) (e : ∀ b, b ≠ A.d → H' b = H b) : H' x = some (.list l) := (e x (r.lk hx).1).trans hx
theorem HandRep.frame {x : Addr} {l : List V} (r : HandRep c H A m) (hx : H x = some (.list l)) (hn : x ≠ A.a) (f : HFrame H H' A) : H' x = some (.list l) := f x _ hx (r.lk hx).1 hn (r.lk hx).2.1
theorem HandRep.setHeard (r : HandRep c H A m) (s : Nat) (n : Nat) (hn : n = m.heard.length) : HandRep c (H.set A.h (.dictI (fun x => if x = ((s : Nat) : Int) then some (V.bool true) else heardM m.heard x) (n + 1))) A { m with heard := s :: m.heard } := by
  subst hn
  refine ⟨(Hp.set_ne r.nih).trans r.i, (Hp.set_ne r.ndh).trans r.d, (Hp.set_ne r.nah).trans r.a, ?_⟩
  rw [Hp.set_self, heardM_cons]; rfl
theorem HandRep.setAskers (r : HandRep c H A m) (s : Nat) : HandRep c (H.set A.a (.list (m.askers.map nv ++ [V.int ((s : Nat) : Int)]))) A { m with askers := m.askers ++ [s] } := by
  refine ⟨(Hp.set_ne r.nia).trans r.i, (Hp.set_ne r.nda).trans r.d, ?_, (Hp.set_ne r.nah.symm).trans r.h⟩
  rw [Hp.set_self]; simp [nv]

/- a hand that is being made -/
structure IRep (c : Addr) (H0 H : Hp) (x dd : Addr) (l : List (Str × V)) (n : Nat) : Prop where
  i : H x = some (.inst c dd)
  d : H dd = some (.ns (Rho.of l) n)
  fr : ∀ b o, H0 b = some o → b ≠ dd → H b = some o
theorem IRep.ne {H0 : Hp} {x d l n} (r : IRep c H0 H x d l n) : x ≠ d := Hp.ne' r.i r.d (by simp)
theorem IRep.put (P : PCx C K) (hc : HandCls K c) {H0 : Hp} {x d l n} {name : Str} {u : V} (r : IRep c H0 H x d l n) (hn : name ∈ handNames) (hle : n ≤ 900) (h : ∀ H', IRep c H0 H' x d (putL l name u) (n + 1) → (∀ b, b ≠ d → H' b = H b) → QH H') : SetAttrW C k (.ref x) name u QH R H := by
  refine SetAttrW.new P hc.ok r.i r.d (hc.name hn) hle (h _ ⟨(Hp.set_ne r.ne).trans r.i, Hp.set_self .., fun b o e q => ?_⟩ fun b hb => Hp.set_ne hb)
  rw [Hp.set_ne q]; exact r.fr b o e q
theorem IRep.putOld (P : PCx C K) (hc : HandCls K c) {H0 : Hp} {x d l n} {name : Str} {u : V} (r : IRep c H0 H x d l n) (hn : name ∈ handNames) (hle : n ≤ 900) (hl : (Rho.of l name).isSome = true) (h : ∀ H', IRep c H0 H' x d (putL l name u) n → (∀ b, b ≠ d → H' b = H b) → QH H') : SetAttrW C k (.ref x) name u QH R H := by
  refine SetAttrW.inst P hc.ok r.i r.d (hc.name hn) hle hl (h _ ⟨(Hp.set_ne r.ne).trans r.i, Hp.set_self .., fun b o e q => ?_⟩ fun b hb => Hp.set_ne hb)
  rw [Hp.set_ne q]; exact r.fr b o e q
theorem IRep.fresh {H0 : Hp} {x d l n} {y : Addr} {o : O} (r : IRep c H0 H x d l n) (hy : H y = none) (hy0 : H0 y = none) : IRep c H0 (H.set y o) x d l n :=
  ⟨(Hp.set_ne (Hp.ne r.i hy)).trans r.i, (Hp.set_ne (Hp.ne r.d hy)).trans r.d, fun b ob e q => by rw [Hp.set_ne (Hp.ne e hy0)]; exact r.fr b ob e q⟩
theorem IRep.old {H0 : Hp} {x d l n} {y : Addr} (r : IRep c H0 H x d l n) (hy : H y = none) : H0 y = none := by
  cases e : H0 y with
  | none => rfl
  | some o =>
    by_cases q : y = d
    · subst q; rw [r.d] at hy; cases hy
    · rw [r.fr y o e q] at hy; cases hy

theorem HFrame.none {x : Addr} (r : HandRep c H A m) (r' : HandRep c H' A m') (f : HFrame H H' A) (hx : H' x = none) : H x = none := by
  cases e : H x with
  | none => rfl
  | some o =>
    have n1 : x ≠ A.d := (Hp.ne r'.d hx).symm
    have n2 : x ≠ A.a := (Hp.ne r'.a hx).symm
    have n3 : x ≠ A.h := (Hp.ne r'.h hx).symm
    rw [f x o e n1 n2 n3] at hx; cases hx
end Mine

set_option Elab.async false
set_option linter.unusedVariables false
namespace Mine
open PySem PySem.W PyProof.Rows
variable {C : Cx} {k : Nat} {K : Frag} {env : Env} {ρ : Rho} {H H' : Hp} {Q R : V → Hp → Prop} {QH : Hp → Prop} {c cH cN : Addr} {A : HA} {m m' : HandM}

structure NAd where
  i : Addr
  d : Addr
  row : Addr
noncomputable def netNames : List Str := [Str.ofString "asker", Str.ofString "hands", Str.ofString "row", Str.ofString "many"]
noncomputable def hrefs (As : Nat → HA) (n : Nat) : List V := (List.range n).map fun k => .ref (As k).i
noncomputable def nattrs (N : NAd) (As : Nat → HA) (n asker many : Nat) : List (Str × V) :=
  [(Str.ofString "asker", .int ((asker : Nat) : Int)), (Str.ofString "hands", .lst (hrefs As n)), (Str.ofString "row", .ref N.row), (Str.ofString "many", .int ((many : Nat) : Int))]
structure NetCls (K : Frag) (c : Addr) : Prop where
  ok : ClsOk K c
  names : (netNames.all fun x => findIn K (.ref c) x == some none) = true
theorem NetCls.name (hc : NetCls K c) {x : Str} (hx : x ∈ netNames) : findIn K (.ref c) x = some none := by
  have := List.all_eq_true.mp hc.names x hx
  simpa using this
structure NetRep (cH cN : Addr) (H : Hp) (N : NAd) (As : Nat → HA) (n asker : Nat) (M : NetM) : Prop where
  i : H N.i = some (.inst cN N.d)
  d : H N.d = some (.ns (Rho.of (nattrs N As n asker M.many)) 4)
  row : H N.row = some (.list (M.row.map lv))
  hands : ∀ k < n, HandRep cH H (As k) (M.hands k)
  sd : ∀ j k, j < n → k < n → j ≠ k → (As j).d ≠ (As k).d ∧ (As j).a ≠ (As k).a ∧ (As j).h ≠ (As k).h
  nd : ∀ k < n, (As k).d ≠ N.d
  na : ∀ k < n, (As k).a ≠ N.row
noncomputable def NFoot (N : NAd) (As : Nat → HA) (n : Nat) (b : Addr) : Prop := b = N.d ∨ b = N.row ∨ ∃ k < n, b = (As k).d ∨ b = (As k).a ∨ b = (As k).h
noncomputable def NFrame (H H' : Hp) (N : NAd) (As : Nat → HA) (n : Nat) : Prop := ∀ b o, H b = some o → ¬ NFoot N As n b → H' b = some o

variable {N : NAd} {As : Nat → HA} {n asker : Nat} {M : NetM}
theorem NetRep.nid (r : NetRep cH cN H N As n asker M) : N.i ≠ N.d := Hp.ne' r.i r.d (by simp)
theorem NetRep.le (r : NetRep cH cN H N As n asker M) (h : Hp.le H H') : NetRep cH cN H' N As n asker M :=
  ⟨h _ _ r.i, h _ _ r.d, h _ _ r.row, fun k hk => (r.hands k hk).le h, r.sd, r.nd, r.na⟩
theorem NFrame.refl (H : Hp) (N : NAd) (As : Nat → HA) (n : Nat) : NFrame H H N As n := fun _ _ e _ => e
theorem NFrame.trans {H'' : Hp} (x : NFrame H H' N As n) (y : NFrame H' H'' N As n) : NFrame H H'' N As n := fun b o e q => y b o (x b o e q) q
theorem NFrame.but (h : NFrame H H' N As n) {H'' : Hp} {x : Addr} (e : ∀ b, b ≠ x → H'' b = H' b) (hx : NFoot N As n x) : NFrame H H'' N As n := fun b ob eb q => by
  rw [e b (fun z => q (z ▸ hx))]; exact h b ob eb q
theorem NFrame.hand {j : Nat} (hj : j < n) (h : HFrame H H' (As j)) : NFrame H H' N As n := fun b o e q =>
  h b o e (fun z => q (.inr (.inr ⟨j, hj, .inl z⟩))) (fun z => q (.inr (.inr ⟨j, hj, .inr (.inl z)⟩))) (fun z => q (.inr (.inr ⟨j, hj, .inr (.inr z)⟩)))
theorem NetRep.get (P : PCx C K) (hc : NetCls K cN) (r : NetRep cH cN H N As n asker M) {name : Str} {v : V} (hn : name ∈ netNames) (hm : Rho.of (nattrs N As n asker M.many) name = some v) (hv : v.plain = true) (h : Q v H) : AttrW C k (.ref N.i) name Q R H :=
  AttrW.inst P hc.ok r.i r.d hm (hc.name hn) hv h
theorem NetRep.meth (P : PCx C K) (hc : NetCls K cN) (r : NetRep cH cN H N As n asker M) {name : Str} {f : Addr} (hm : Rho.of (nattrs N As n asker M.many) name = none) (hf : findIn K (.ref cN) name = some (some (.ref f))) (ht : typeIn K (.ref f) = some (.type "function")) : MethIs C H (.ref N.i) name (.ref f) :=
  MethIs.own P hc.ok r.i r.d hm hf ht
theorem nattrs_many (x : Nat) (mn : Nat) : putL (nattrs N As n asker mn) (Str.ofString "many") (.int ((x : Nat) : Int)) = nattrs N As n asker x := by with_unfolding_all rfl
theorem NetRep.putMany (P : PCx C K) (hc : NetCls K cN) (r : NetRep cH cN H N As n asker M) (x : Nat) (h : ∀ H', NetRep cH cN H' N As n asker { M with many := x } → (∀ b, b ≠ N.d → H' b = H b) → QH H') : SetAttrW C k (.ref N.i) (Str.ofString "many") (.int ((x : Nat) : Int)) QH R H := by
  refine SetAttrW.inst P hc.ok r.i r.d (hc.name (by simp [netNames])) (by decide) (by with_unfolding_all rfl) ?_
  rw [nattrs_many]
  refine h _ ⟨(Hp.set_ne r.nid).trans r.i, Hp.set_self .., ?_, fun k hk => ?_, r.sd, r.nd, r.na⟩ fun b hb => Hp.set_ne hb
  · rw [Hp.set_ne (Hp.ne' r.row r.d (by simp))]; exact r.row
  · have q := r.hands k hk
    exact q.other (Hp.ne' q.i r.d (by simp)) (r.nd k hk) (Hp.ne' q.a r.d (by simp)) (Hp.ne' q.h r.d (by simp))
theorem NetRep.setRow (r : NetRep cH cN H N As n asker M) (l : List Lt) : NetRep cH cN (H.set N.row (.list (l.map lv))) N As n asker { M with row := l } := by
  refine ⟨(Hp.set_ne (Hp.ne' r.i r.row (by simp))).trans r.i, (Hp.set_ne (Hp.ne' r.d r.row (by simp))).trans r.d, Hp.set_self .., fun k hk => ?_, r.sd, r.nd, r.na⟩
  exact (r.hands k hk).list r.row (r.na k hk).symm
theorem NetRep.hand (r : NetRep cH cN H N As n asker M) {j : Nat} (hj : j < n) {p : HandM} (rp : HandRep cH H' (As j) p) (f : HFrame H H' (As j)) : NetRep cH cN H' N As n asker { M with hands := upd M.hands j p } := by
  have q := r.hands j hj
  refine ⟨f _ _ r.i (Hp.ne' r.i q.d (by simp)) (Hp.ne' r.i q.a (by simp)) (Hp.ne' r.i q.h (by simp)), f _ _ r.d (r.nd j hj).symm (Hp.ne' r.d q.a (by simp)) (Hp.ne' r.d q.h (by simp)), f _ _ r.row (Hp.ne' r.row q.d (by simp)) (r.na j hj).symm (Hp.ne' r.row q.h (by simp)), fun k hk => ?_, r.sd, r.nd, r.na⟩
  by_cases e : k = j
  · subst e; simp only [upd, if_true]; exact rp
  · simp only [upd, e, if_false]
    have z := r.hands k hk
    obtain ⟨s1, s2, s3⟩ := r.sd k j hk hj e
    exact ⟨f _ _ z.i (Hp.ne' z.i q.d (by simp)) (Hp.ne' z.i q.a (by simp)) (Hp.ne' z.i q.h (by simp)), f _ _ z.d s1 (Hp.ne' z.d q.a (by simp)) (Hp.ne' z.d q.h (by simp)), f _ _ z.a (Hp.ne' z.a q.d (by simp)) s2 (Hp.ne' z.a q.h (by simp)), f _ _ z.h (Hp.ne' z.h q.d (by simp)) (Hp.ne' z.h q.a (by simp)) s3⟩

noncomputable def NOk (n : Nat) (M : NetM) : Prop := (∀ k < n, HOk (M.hands k)) ∧ (∀ t ∈ M.row, t.2.2 < n) ∧ M.row.length ≤ 40000
noncomputable def S_put (cH cN : Addr) : SpecT := fun args Q R H => ∃ (N : NAd) (As : Nat → HA) (n asker : Nat) (M : NetM) (x : Addr) (l : List Lt), args = [.ref N.i, .ref x] ∧ NetRep cH cN H N As n asker M ∧ H x = some (.list (l.map lv)) ∧ x ≠ N.row ∧ M.row.length + l.length ≤ 45000 ∧
  ∀ H', NetRep cH cN H' N As n asker { M with row := M.row ++ l, many := M.many + l.length } → (∀ b, b ≠ N.d → b ≠ N.row → H' b = H b) → Q .none H'
noncomputable def S_hand (cH cN : Addr) : SpecT := fun args Q R H => ∃ (N : NAd) (As : Nat → HA) (n asker : Nat) (M : NetM) (j : Nat), args = [.ref N.i, nv j] ∧ NetRep cH cN H N As n asker M ∧ j < n ∧ n ≤ 1000 ∧ Q (.ref (As j).i) H
noncomputable def S_owed_by (cH cN : Addr) : SpecT := fun args Q R H => ∃ (N : NAd) (As : Nat → HA) (n asker : Nat) (M : NetM) (j : Nat), args = [.ref N.i, nv j] ∧ NetRep cH cN H N As n asker M ∧ j < n ∧ n ≤ 1000 ∧ Q (.int (M.hands j).owed) H
noncomputable def S_waker_of (cH cN : Addr) : SpecT := fun args Q R H => ∃ (N : NAd) (As : Nat → HA) (n asker : Nat) (M : NetM) (j : Nat), args = [.ref N.i, nv j] ∧ NetRep cH cN H N As n asker M ∧ j < n ∧ n ≤ 1000 ∧ Q (ov (M.hands j).waker) H
noncomputable def S_letters (cH cN : Addr) : SpecT := fun args Q R H => ∃ (N : NAd) (As : Nat → HA) (n asker : Nat) (M : NetM), args = [.ref N.i] ∧ NetRep cH cN H N As n asker M ∧ M.row.length ≤ 50000 ∧ (Q (.lst (M.row.map lv)) H ∨ ∀ x, H x = none → Q (.ref x) (H.set x (.list (M.row.map lv))))
noncomputable def S_sent (cH cN : Addr) : SpecT := fun args Q R H => ∃ (N : NAd) (As : Nat → HA) (n asker : Nat) (M : NetM), args = [.ref N.i] ∧ NetRep cH cN H N As n asker M ∧ Q (.int ((M.many : Nat) : Int)) H
noncomputable def rungV (m : HandM) : V := if 0 < m.owed then .none else .bool (!m.freed)
noncomputable def S_rung (cH cN : Addr) : SpecT := fun args Q R H => ∃ (N : NAd) (As : Nat → HA) (n asker : Nat) (M : NetM), args = [.ref N.i] ∧ NetRep cH cN H N As n asker M ∧ asker < n ∧ n ≤ 1000 ∧ Q (rungV (M.hands asker)) H
noncomputable def shownM (n : Nat) (M : NetM) : List Nat := ((List.range n).filter fun k => (M.hands k).has && !(M.hands k).freed).map fun k => (M.hands k).num
noncomputable def S_shown (cH cN : Addr) : SpecT := fun args Q R H => ∃ (N : NAd) (As : Nat → HA) (n asker : Nat) (M : NetM), args = [.ref N.i] ∧ NetRep cH cN H N As n asker M ∧ n ≤ 1000 ∧ (Q (.lst ((shownM n M).map nv)) H ∨ ∀ x, H x = none → Q (.ref x) (H.set x (.list ((shownM n M).map nv))))
noncomputable def S_bring (cH cN : Addr) : SpecT := fun args Q R H => ∃ (N : NAd) (As : Nat → HA) (n asker : Nat) (M : NetM) (p : Nat), args = [.ref N.i, nv p] ∧ NetRep cH cN H N As n asker M ∧ NOk n M ∧ n ≤ 1000 ∧ p < M.row.length ∧
  ∀ H' x, NetRep cH cN H' N As n asker (bringM M p).1 → H' x = some (.list ((bringM M p).2.map lv)) → H x = none → NFrame H H' N As n → Q (.ref x) H'
noncomputable def S_ninit (cH cN : Addr) : SpecT := fun args Q R H => ∃ (x d : Addr) (W : List Wt) (asker : Nat), args = [.ref x, .lst (W.map wv), nv asker] ∧ WsOk W ∧ asker < W.length ∧ H x = some (.inst cN d) ∧ H d = some (.ns (Rho.of []) 0) ∧
  ∀ H' (N : NAd) As, N.i = x → N.d = d → NetRep cH cN H' N As W.length asker (netM W asker) → (∀ b o, H b = some o → b ≠ d → H' b = some o) → (∀ b, NFoot N As W.length b → b = d ∨ H b = none) → Q .none H'
theorem hrefs_get {j : Nat} (hj : j < n) : (hrefs As n)[j]? = some (.ref (As j).i) := by
  unfold hrefs; simp [hj]
theorem hrefs_len : (hrefs As n).length = n := by simp [hrefs]

/- a net that is being made -/
structure JRep (c : Addr) (H0 H : Hp) (x dd : Addr) (l : List (Str × V)) (n : Nat) : Prop where
  i : H x = some (.inst c dd)
  d : H dd = some (.ns (Rho.of l) n)
  fr : ∀ b o, H0 b = some o → b ≠ dd → H b = some o
theorem JRep.ne {H0 : Hp} {x d l n} (r : JRep c H0 H x d l n) : x ≠ d := Hp.ne' r.i r.d (by simp)
theorem JRep.put (P : PCx C K) (hc : NetCls K c) {H0 : Hp} {x d l n} {name : Str} {u : V} (r : JRep c H0 H x d l n) (hn : name ∈ netNames) (hle : n ≤ 900) (h : ∀ H', JRep c H0 H' x d (putL l name u) (n + 1) → (∀ b, b ≠ d → H' b = H b) → QH H') : SetAttrW C k (.ref x) name u QH R H := by
  refine SetAttrW.new P hc.ok r.i r.d (hc.name hn) hle (h _ ⟨(Hp.set_ne r.ne).trans r.i, Hp.set_self .., fun b o e q => ?_⟩ fun b hb => Hp.set_ne hb)
  rw [Hp.set_ne q]; exact r.fr b o e q
theorem JRep.le {H0 : Hp} {x d l n} (r : JRep c H0 H x d l n) (h : Hp.le H H') : JRep c H0 H' x d l n := ⟨h _ _ r.i, h _ _ r.d, fun b o e q => h _ _ (r.fr b o e q)⟩
theorem JRep.old {H0 : Hp} {x d l n} {y : Addr} (r : JRep c H0 H x d l n) (hy : H y = none) : H0 y = none := by
  cases e : H0 y with
  | none => rfl
  | some o =>
    by_cases q : y = d
    · subst q; rw [r.d] at hy; cases hy
    · rw [r.fr y o e q] at hy; cases hy
end Mine

set_option Elab.async false
set_option linter.unusedVariables false
namespace Mine
open PySem PySem.W PyProof.Rows
variable {C : Cx} {k : Nat} {K : Frag} {env : Env} {ρ : Rho} {H H' : Hp} {Q R : V → Hp → Prop} {QH : Hp → Prop} {c cH cN : Addr} {A : HA} {m m' : HandM} {As : Nat → HA} {n asker : Nat} {W : List Wt}

theorem map_eraseIdx' {α β : Type} (f : α → β) : ∀ (l : List α) (p : Nat), (l.map f).eraseIdx p = (l.eraseIdx p).map f
  | [], _ => rfl
  | _ :: _, 0 => rfl
  | x :: l, p + 1 => by simp only [List.map_cons, List.eraseIdx_cons_succ, map_eraseIdx' f l p]
structure HsRep (cH : Addr) (H1 H' : Hp) (W : List Wt) (asker : Nat) (As : Nat → HA) (i : Nat) (D : Addr) : Prop where
  hands : ∀ k < i, HandRep cH H' (As k) (startM W asker k)
  sd : ∀ j k, j < i → k < i → j ≠ k → (As j).d ≠ (As k).d ∧ (As j).a ≠ (As k).a ∧ (As j).h ≠ (As k).h
  new : ∀ k < i, H1 (As k).i = none ∧ H1 (As k).d = none ∧ H1 (As k).a = none ∧ H1 (As k).h = none
  nD : ∀ k < i, (As k).a ≠ D
  le : Hp.le H1 H'
theorem HsRep.zero {H1 : Hp} {D : Addr} {o : O} (hD : H1 D = none) : HsRep cH H1 (H1.set D o) W asker As 0 D :=
  ⟨fun k hk => absurd hk (Nat.not_lt_zero _), fun j k hj => absurd hj (Nat.not_lt_zero _), fun k hk => absurd hk (Nat.not_lt_zero _), fun k hk => absurd hk (Nat.not_lt_zero _), Hp.le_set hD⟩
theorem HsRep.step {H1 H'' : Hp} {D : Addr} {acc acc' : List V} {i : Nat} (r : HsRep cH H1 H' W asker As i D) (hD : H' D = some (.list acc)) (h1D : H1 D = none) (le : Hp.le H' H'') (rep : HandRep cH H'' A (startM W asker i))
    (n1 : H' A.i = none) (n2 : H' A.d = none) (n3 : H' A.a = none) (n4 : H' A.h = none) : HsRep cH H1 (H''.set D (.list acc')) W asker (upd As i A) (i + 1) D := by
  have hD2 := le _ _ hD
  have up : ∀ k, k < i → upd As i A k = As k := fun k hk => if_neg (by omega)
  have upi : upd As i A i = A := if_pos rfl
  have cs : ∀ {k}, k < i + 1 → k < i ∨ k = i := fun h => by omega
  have nA : A.a ≠ D := fun e => by rw [e, hD] at n3; cases n3
  have z1 : ∀ x, H' x = none → H1 x = none := fun x hx => by
    cases e : H1 x with
    | none => rfl
    | some o => rw [r.le _ _ e] at hx; cases hx
  refine ⟨fun k hk => ?_, fun j k hj hk hjk => ?_, fun k hk => ?_, fun k hk => ?_, fun b o e => ?_⟩
  · rcases cs hk with h | rfl
    · rw [up k h]; exact ((r.hands k h).le le).list hD2 (r.nD k h).symm
    · rw [upi]; exact rep.list hD2 nA.symm
  · rcases cs hj with h | rfl <;> rcases cs hk with h' | rfl
    · rw [up j h, up k h']; exact r.sd j k h h' hjk
    · rw [up j h, upi]
      have q := r.hands j h
      exact ⟨Hp.ne q.d n2, Hp.ne q.a n3, Hp.ne q.h n4⟩
    · rw [up k h', upi]
      have q := r.hands k h'
      exact ⟨(Hp.ne q.d n2).symm, (Hp.ne q.a n3).symm, (Hp.ne q.h n4).symm⟩
    · exact absurd rfl hjk
  · rcases cs hk with h | rfl
    · rw [up k h]; exact r.new k h
    · rw [upi]; exact ⟨z1 _ n1, z1 _ n2, z1 _ n3, z1 _ n4⟩
  · rcases cs hk with h | rfl
    · rw [up k h]; exact r.nD k h
    · rw [upi]; exact nA
  · rw [Hp.set_ne (Hp.ne e h1D)]; exact le _ _ (r.le _ _ e)
theorem hrefs_step {A : HA} {i : Nat} : hrefs (upd As i A) (i + 1) = hrefs As i ++ [.ref A.i] := by
  unfold hrefs
  rw [List.range_succ, List.map_append]
  congr 1
  · refine List.map_congr_left fun k hk => ?_
    have : k ≠ i := by have := List.mem_range.mp hk; omega
    simp [upd, this]
  · simp [upd]
theorem HandRep.del {D : Addr} {l : List V} (r : HandRep c H A m) (hD : H D = some (.list l)) (hn : A.a ≠ D) : HandRep c (H.del D) A m := by
  obtain ⟨a, b, d⟩ := r.lk hD
  have e : ∀ x, x ≠ D → (H.del D) x = H x := fun x hx => if_neg hx
  exact ⟨(e _ d.symm).trans r.i, (e _ a.symm).trans r.d, (e _ hn).trans r.a, (e _ b.symm).trans r.h⟩
theorem HsRep.done {H1 : Hp} {D : Addr} {acc : List V} {i : Nat} (r : HsRep cH H1 H' W asker As i D) (hD : H' D = some (.list acc)) (h1D : H1 D = none) :
    Fz H' (.ref D) (.lst acc) (H'.del D) ∧ (∀ k < i, HandRep cH (H'.del D) (As k) (startM W asker k)) ∧ Hp.le H1 (H'.del D) := by
  have hle : Hp.le (H'.del D) H' := fun b o e => by
    unfold Hp.del at e; split at e
    · cases e
    · exact e
  refine ⟨fz_own hD hle (by simp [Hp.del]), fun k hk => (r.hands k hk).del hD (r.nD k hk), fun b o e => ?_⟩
  unfold Hp.del
  rw [if_neg (Hp.ne e h1D)]; exact r.le _ _ e

theorem JRep.net {H0 H1 : Hp} {x d rw : Addr} {l : List (Str × V)} {nn : Nat} (hl : l = nattrs ⟨x, d, rw⟩ As n asker 0) (hn : nn = 4) (r : JRep cN H0 H' x d l nn) (hr : H' rw = some (.list []))
    (hands : ∀ k < n, HandRep cH H' (As k) (startM W asker k)) (sd : ∀ j k, j < n → k < n → j ≠ k → (As j).d ≠ (As k).d ∧ (As j).a ≠ (As k).a ∧ (As j).h ≠ (As k).h)
    (nd : ∀ k < n, (As k).d ≠ d) (na : ∀ k < n, (As k).a ≠ rw) : NetRep cH cN H' ⟨x, d, rw⟩ As n asker ⟨startM W asker, [], 0⟩ := by
  subst hl hn
  exact ⟨r.i, r.d, hr, hands, sd, nd, na⟩
end Mine

set_option Elab.async false
set_option linter.unusedVariables false
namespace Mine

/- what the waker becomes -/
/- chains of wakers: the newest one first -/
end Mine

set_option Elab.async false
set_option linter.unusedVariables false
namespace Mine
open PySem PySem.W PyProof.Rows

/- sizes along the turns -/
structure SzInv (n t : Nat) (M : NetM) : Prop where
  a : ∀ k < n, (M.hands k).askers.length ≤ t ∧ (M.hands k).heard.length ≤ t ∧ (M.hands k).others.length ≤ 100
  r : M.row.length ≤ 100 + 300 * t
theorem SzInv.bring {n t M} (S : SzInv n t M) (ht : t ≤ 190) (hr : ∀ u ∈ M.row, u.2.2 < n) (p : Nat) : SzInv n (t + 1) (bringM M p).1 := by
  unfold bringM
  split
  · exact ⟨fun k hk => ⟨Nat.le_succ_of_le (S.a k hk).1, Nat.le_succ_of_le (S.a k hk).2.1, (S.a k hk).2.2⟩, by have := S.r; show M.row.length ≤ _; omega⟩
  · rename_i w s r hp
    have hrn : r < n := hr _ (List.mem_of_getElem? hp)
    have sz := come_sizes (M.hands r) w s
    have so := (come_same (M.hands r) w s).others
    have sr := S.a r hrn
    refine ⟨fun k hk => ?_, ?_⟩
    · show (upd M.hands r _ k).askers.length ≤ _ ∧ (upd M.hands r _ k).heard.length ≤ _ ∧ (upd M.hands r _ k).others.length ≤ _
      unfold upd
      split
      · rw [so]; omega
      · have := S.a k hk; omega
    · have h1 := List.length_eraseIdx_le M.row p
      have h2 := S.r
      show (M.row.eraseIdx p ++ _).length ≤ _
      rw [List.length_append]
      omega
theorem SzInv.start {W : List Wt} {asker : Nat} (h : ∀ w ∈ W, ∀ b l, w = some (b, l) → l.length ≤ 100) (ha : asker < W.length) : SzInv W.length 0 (netM W asker) := by
  have oth : ∀ k < W.length, (startM W asker k).others.length ≤ 100 := fun k hk => by
    unfold startM initM HandM.others
    dsimp only
    split
    · exact Nat.zero_le _
    · rename_i b l e
      exact h (W.getD k none) (by simp [List.getD_eq_getElem?_getD, hk]) b l e
  have bz := begin_sizes (startM W asker asker)
  refine ⟨fun k hk => ?_, ?_⟩
  · show (upd (startM W asker) asker _ k).askers.length ≤ _ ∧ (upd (startM W asker) asker _ k).heard.length ≤ _ ∧ (upd (startM W asker) asker _ k).others.length ≤ _
    unfold upd
    split
    · rename_i e
      rw [bz.1, bz.2.1, (begin_same _).others]; exact ⟨Nat.le_refl _, Nat.le_refl _, oth _ ha⟩
    · exact ⟨Nat.le_refl _, Nat.le_refl _, oth k hk⟩
  · have := oth asker ha
    show (beginM (startM W asker asker)).2.length ≤ _
    omega
theorem SzInv.nok {n t M} (S : SzInv n t M) (ht : t ≤ 130) (hr : ∀ u ∈ M.row, u.2.2 < n) : NOk n M :=
  ⟨fun k hk => by have := S.a k hk; exact ⟨by omega, by omega, by omega⟩, hr, by have := S.r; omega⟩
theorem WsOk.lens {W : List Wt} (h : WsOk W) : ∀ w ∈ W, ∀ b l, w = some (b, l) → l.length ≤ 100 := fun w hw b l e => by
  have := h.2.2 w hw; rw [e] at this; exact this.2.2.2
theorem WsOk.lts {W : List Wt} (h : WsOk W) : ∀ w ∈ W, ∀ b l, w = some (b, l) → ∀ x ∈ l, x < W.length := fun w hw b l e => by
  have := h.2.2 w hw; rw [e] at this; exact this.2.2.1
/- lists of numbers, one for each hand -/
end Mine

set_option Elab.async false
set_option linter.unusedVariables false
namespace Mine

end Mine

set_option Elab.async false
set_option linter.unusedVariables false
namespace Mine
open PySem PySem.W PyProof.Rows
variable {C : Cx} {k : Nat} {K : Frag} {env : Env} {ρ : Rho} {H H' : Hp} {Q R : V → Hp → Prop} {QH : Hp → Prop} {m m' : HandM}

theorem BinW.addLF {v w : V} {l l' : List V} (hv : lview H v = some l) (hw : lview H w = some l') (hn : l.length + l'.length ≤ 100000) (h : Q (.lst (l ++ l')) H) : BinW C k .Add v w Q R H := fun A a s x y S r1 r2 => by
  refine wpAny_mono (BinW.addL (C := C) (k := k) (Q := fun v H' => ∃ a, v = .ref a ∧ H a = Option.none ∧ H' = H.set a (.list (l ++ l'))) (R := R) hv hw hn (fun a ha => ⟨a, rfl, ha, rfl⟩) A a s x y S r1 r2) ?_ fun _ _ p => p
  rintro x s' ⟨v', H', ⟨b, rfl, hb, rfl⟩, S', r', E'⟩
  obtain ⟨S3, r3⟩ := (fz_new (acc := l ++ l') hb).2 C s' x S' r'
  exact ⟨.lst (l ++ l'), H, h, S3, r3, ⟨E'.keep, fun c o e n => n, E'.live⟩⟩

/- letters as data -/
theorem lv_pure (t : Lt) : (lv t).pure = true := by obtain ⟨w, a, b⟩ := t; rfl
theorem lv_lay (t : Lt) : (lv t).dat.canLay0 = true ∧ (lv t).dat.depth ≤ 5 := by
  obtain ⟨w, a, b⟩ := t
  cases w <;> exact ⟨by simp only [lv, LW.str, nv, V.dat, datL, PyData.canLay0, PyData.canLayAll0]; decide +kernel, by simp only [lv, LW.str, nv, V.dat, datL, PyData.depth, PyData.depthAll]; decide⟩
/- the mirror's dicts -/
variable {B : MA}
end Mine

set_option Elab.async false
set_option linter.unusedVariables false
namespace Mine

/- the letters that may come -/
end Mine

set_option Elab.async false
set_option linter.unusedVariables false
namespace Mine

end Mine

set_option Elab.async false
set_option linter.unusedVariables false
namespace Mine
open PySem PySem.W PyProof.Rows
variable {C : Cx} {k : Nat} {K : Frag} {env : Env} {ρ : Rho} {H H' : Hp} {Q R : V → Hp → Prop} {QH : Hp → Prop} {m m' : HandM}

/- a tuple's end: t[n:] -/
/- remove a number -/
/- letters, self-letters -/
/- the law's own record -/
variable {B : SA} {st st' : S5} {wd : Str}
end Mine

set_option Elab.async false
set_option linter.unusedVariables false
namespace Mine
open PySem PySem.W PySem.SeqAt PySem.Spec PyProof.Rows
variable {C : Cx} {k : Nat} {env : Env} {ρ : Rho} {H : Hp} {Q R : V → Hp → Prop}

theorem frz_post {s s' : Shared} {x : Value} {a : Addr} {l : List V} {v : V} {H' : Hp} (e : v = .ref a) (hb : H a = Option.none) (eH : H' = H.set a (.list l)) (h : Q (.lst l) H) (S' : Sim C H' s') (r' : VRel s'.heap H' v x) (E' : Ext H s.heap H' s'.heap) : Post C H s.heap VRel Q x s' := by
  subst e; subst eH
  obtain ⟨S3, r3⟩ := (fz_new (acc := l) hb).2 C s' x S' r'
  exact ⟨.lst l, H, h, S3, r3, ⟨E'.keep, fun c o e n => n, E'.live⟩⟩
theorem EvalW.frz {e} (h : EvalW C k env e (fun v H₁ => ∃ a l, v = .ref a ∧ H a = Option.none ∧ H₁ = H.set a (.list l) ∧ Q (.lst l) H) R ρ H) : EvalW C k env e Q R ρ H := fun A a s S => by
  refine wpAny_mono (h A a s S) ?_ fun _ _ p => p
  rintro x s' ⟨v, H', ⟨b, l, e, hb, eH, q⟩, S', r', E'⟩
  exact frz_post e hb eH q S' r' E'
theorem EvalW.sliceF {value lower upper p pos} (h : EvalW C k env value (fun v H₁ => PartW C k env lower (fun lo H₂ => PartW C k env upper (fun hi H₃ => H₃ = H ∧ ∃ l, lview H v = Option.some l ∧ l.length ≤ 100000 ∧ Q (.lst (pickV l lo hi)) H) R ρ H₂) R ρ H₁) R ρ H)
    (ht : ∀ o r, letTemporaryGo value o r = pure () := by intro _ _; rfl) : EvalW C k env (.Subscript value (.Slice lower upper Option.none p) pos) Q R ρ H := by
  refine EvalW.frz (EvalW.sliceL ?_ ht)
  refine EvalW.conseq h (fun v H₁ q => ?_) fun _ _ r => r
  intro A a s S
  refine wpAny_mono (q A a s S) ?_ fun _ _ p => p
  rintro x s' ⟨lo, H₂, q2, S', r', E'⟩
  refine ⟨lo, H₂, fun A a s S => ?_, S', r', E'⟩
  refine wpAny_mono (q2 A a s S) ?_ fun _ _ p => p
  rintro x s' ⟨hi, H₃, ⟨rfl, l, hl, hn, q3⟩, S', r', E'⟩
  exact ⟨hi, H₃, ⟨l, hl, hn, fun a ha => ⟨a, _, rfl, ha, rfl, q3⟩⟩, S', r', E'⟩
/- lists besides a net -/
variable {cH cN : Addr} {N : NAd} {As : Nat → HA} {n asker : Nat} {M M' : NetM} {H' : Hp} {x : Addr} {l : List V}
end Mine

set_option Elab.async false
set_option maxRecDepth 100000
set_option linter.unusedVariables false
namespace Mine
open PySem PySem.W PyProof.Rows
variable {C : Cx} {k : Nat} {K : Frag} {env : Env} {ρ : Rho} {H : Hp} {Q R : V → Hp → Prop} {QS : Fl → Rho → Hp → Prop} {RS : V → Rho → Hp → Prop}

structure ExcMk0 (C : Cx) (c : Addr) : Prop where
  all : ∃ nm q N bs bm hdct sn sub ab col dd k0 k1 k2 k3 k5 mN, C.base.get? c = some (excClassObj nm q c N bs bm hdct sn sub ab col dd k0 k1 k2 k3 k5 "ValueError.__new__") ∧ OwnTail C.base [.type "ValueError", .type "Exception", .type "BaseException", .type "object"] bm ∧
    C.base.Ns N mN ∧ mN "__init__" = none
  mods : ∃ o, C.base.get? sysModules = some o
theorem ExcMk0.cls {c : Addr} (h : ExcMk0 C c) : ExcCls C c := by
  obtain ⟨nm, q, N, bs, bm, hdct, sn, sub, ab, col, dd, k0, k1, k2, k3, k5, mN, hC, hT, _⟩ := h.all
  exact ⟨_, _, _, _, _, _, _, _, _, _, _, _, _, _, _, _, hC, hT⟩
theorem CallW.mkExc0 {c : Addr} {args : List V} (hc : ExcMk0 C c) (hn : args.length ≤ 100) (h : ∀ e, H e = none → Q (.ref e) (H.set e (.exc c none none))) : CallW C k (.ref c) args Q R H := fun A lv s xs S r => by
  obtain ⟨nm, q, N, bs, bm, hdct, sn, sub, ab, col, dd, k0, k1, k2, k3, k5, mN, hC, hT, hN, hi⟩ := hc.all
  obtain ⟨om, hom⟩ := hc.mods
  have T₁ := hT.keeps S.keep
  have hN₁ : s.heap.Ns N mN := hN.keeps S.keep
  have hl : xs.length = args.length := r.length
  have hsz := sizeLine_eq
  obtain ⟨hp, g, dr, tk, os⟩ := s
  dsimp only at T₁ hN₁
  refine wpAny_call_exc_subT PySem.F.excBase_ValueError T₁ (S.keep _ _ hC) hN₁ hi (fun h' e hm => ?_) (by omega)
  obtain ⟨t, he, htn, ht⟩ := hm.there
  have S1 : Sim C H ⟨h', g, dr, tk, os⟩ := S.grown (s' := ⟨h', g, dr, tk, os⟩) hm.keeps rfl rfl
  have hH : H e = none := by
    cases e0 : H e with
    | none => rfl
    | some o => obtain ⟨ob, z⟩ := (S.objs _ _ e0).lt; rw [hm.new] at z; cases z
  have hB : C.base.get? e = none := by
    cases e0 : C.base.get? e with
    | none => rfl
    | some o => have z := S.keep _ _ e0; rw [hm.new] at z; cases z
  have hM : e ≠ sysModules := fun z => by rw [z] at hB; rw [hB] at hom; cases hom
  have S2 : Sim C (H.set e (.exc c none none)) ⟨h', g, dr, tk, os⟩ := S1.take he (fun _ _ q => by cases q) (fun _ _ q => by cases q) hH hB hM ⟨_, _, he, rfl, rfl, rfl, by simp, rfl⟩
  have E2 : Ext H hp (H.set e (.exc c none none)) h' := ⟨fun a o ea _ => .of (hm.keeps a o ea), fun a o ea n => by
    have : a ≠ e := fun q => by rw [q, hm.new] at ea; cases ea
    unfold Hp.set; rw [if_neg this]; exact n, fun a o ea => ⟨o, hm.keeps a o ea⟩⟩
  exact ⟨_, _, h e hH, S2, .ref _, E2⟩

/- exceptions on their way -/
inductive XK where
  | bad (u : V)
  | no (c : Addr)
noncomputable def atNs (u : V) : O := .ns (Rho.set (Rho.of []) (Str.ofString "at") u) 1
noncomputable def NTb (H : Hp) (b : Addr) : Prop := ∀ fl, H b ≠ some (.tb fl)
noncomputable def XIs : XK → Hp → Addr → Prop
  | .bad u, H, e => ∃ d T, H e = some (.exc 44 (some d) (some T)) ∧ H T = some (.tb none) ∧ H d = some (atNs u)
  | .no c, H, e => ∃ T, H e = some (.exc c none (some T)) ∧ H T = some (.tb none)
noncomputable def XOut (H : Hp) (x : XK) (R : V → Hp → Prop) : Prop := ∀ e H', XIs x H' e → (∀ b, NTb H b → H b ≠ none → H' b = H b) → H e = none → R (.ref e) H'
theorem XOut.le {H1 : Hp} {x : XK} (h : XOut H x R) (hle : Hp.le H H1) : XOut H1 x R := fun e H' hx hk he => by
  refine h e H' hx (fun b nt nn => ?_) (hle.none e he)
  cases q : H b with
  | none => exact absurd q nn
  | some o =>
    have := hle b o q
    rw [hk b (fun fl z => by rw [this] at z; exact nt fl (q.trans z)) (by rw [this]; simp), this]
theorem XIs.exc {x : XK} {e : Addr} (h : XIs x H e) : ∃ c d T, H e = some (.exc c d (some T)) ∧ H T = some (.tb none) := by
  cases x with
  | bad u => obtain ⟨d, T, h1, h2, h3⟩ := h; exact ⟨_, _, _, h1, h2⟩
  | no c => obtain ⟨T, h1, h2⟩ := h; exact ⟨_, _, _, h1, h2⟩
theorem XIs.on {x : XK} {e : Addr} {Hm H' : Hp} {c : Addr} {d T0 : Option Addr} {T' : Addr} (hx : ∃ H0, XIs x H0 e ∧ H0 e = some (.exc c d T0) ∧ ∀ b, b ≠ e → NTb H0 b → H0 b ≠ none → Hm b = H0 b)
    (e1 : H' e = some (.exc c d (some T'))) (e2 : H' T' = some (.tb none)) (e3 : ∀ b, b ≠ e → (∀ fl, Hm b ≠ some (.tb fl)) → Hm b ≠ none → H' b = Hm b) : XIs x H' e := by
  obtain ⟨H0, hx, h0, hk⟩ := hx
  cases x with
  | bad u =>
    obtain ⟨d', T, h1, h2, h3⟩ := hx
    rw [h0] at h1; cases h1
    have hde : d' ≠ e := fun q => by rw [q, h0] at h3; cases h3
    have hm : Hm d' = some (atNs u) := by rw [hk d' hde (fun fl z => by rw [h3] at z; cases z) (by rw [h3]; simp)]; exact h3
    exact ⟨d', T', e1, e2, by rw [e3 d' hde (fun fl z => by rw [hm] at z; cases z) (by rw [hm]; simp)]; exact hm⟩
  | no c' =>
    obtain ⟨T, h1, h2⟩ := hx
    rw [h0] at h1; cases h1
    exact ⟨T', e1, e2⟩
theorem XOut.through {x : XK} {L : Addr} (h : XOut H x R) : XOut H x (XR L R) := fun e H' hx hk he => by
  obtain ⟨c, d, T, h1, h2⟩ := hx.exc
  refine ⟨e, c, d, some T, rfl, h1, .inr ⟨T, none, rfl, h2, .inl rfl⟩, fun H'' T'' e1 e2 e3 => ?_⟩
  refine h e H'' (XIs.on (Hm := H') ⟨H', hx, h1, fun _ _ _ _ => rfl⟩ e1 e2 e3) (fun b nt nn => ?_) he
  have hbe : b ≠ e := fun q => nn (q ▸ he)
  have h5 := hk b nt nn
  rw [e3 b hbe (fun fl z => nt fl (h5 ▸ z)) (h5 ▸ nn), h5]
noncomputable def XNew (H : Hp) (x : XK) (e : Addr) (H' : Hp) : Prop := ∃ c d, H' e = some (.exc c d none) ∧ (match x with | .bad u => c = 44 ∧ ∃ a, d = some a ∧ H' a = some (atNs u) | .no c' => c = c' ∧ d = none) ∧ H e = none ∧ ∀ b, H b ≠ none → H' b = H b
theorem XNew.is {x : XK} {e : Addr} {Hm H' : Hp} {c : Addr} {d : Option Addr} {T' : Addr} (hx : match x with | .bad u => c = 44 ∧ ∃ a, d = some a ∧ a ≠ e ∧ Hm a = some (atNs u) | .no c' => c = c' ∧ d = none)
    (e1 : H' e = some (.exc c d (some T'))) (e2 : H' T' = some (.tb none)) (e3 : ∀ b, b ≠ e → (∀ fl, Hm b ≠ some (.tb fl)) → Hm b ≠ none → H' b = Hm b) : XIs x H' e := by
  cases x with
  | bad u =>
    obtain ⟨rfl, a, rfl, hae, ha⟩ := hx
    exact ⟨a, T', e1, e2, by rw [e3 a hae (fun fl z => by rw [ha] at z; cases z) (by rw [ha]; simp)]; exact ha⟩
  | no c' =>
    obtain ⟨rfl, rfl⟩ := hx
    exact ⟨T', e1, e2⟩
theorem XOut.fresh {x : XK} {L e : Addr} {H' : Hp} (h : XOut H x R) (hx : XNew H x e H') : XR L R (.ref e) H' := by
  obtain ⟨c, d, h1, hm, he, hk⟩ := hx
  refine ⟨e, c, d, none, rfl, h1, .inl rfl, fun H'' T'' e1 e2 e3 => ?_⟩
  refine h e H'' (XNew.is (Hm := H') ?_ e1 e2 e3) (fun b nt nn => ?_) he
  · cases x with
    | bad u => obtain ⟨rfl, a, rfl, ha⟩ := hm; exact ⟨rfl, a, rfl, (fun q => by rw [q, h1] at ha; cases ha), ha⟩
    | no c' => exact hm
  · have hbe : b ≠ e := fun q => nn (q ▸ he)
    have h5 := hk b nn
    rw [e3 b hbe (fun fl z => nt fl (h5 ▸ z)) (h5 ▸ nn), h5]
theorem XOut.loop {x : XK} {L e : Addr} {H' : Hp} (h : XOut H x R) (hx : XNew H x e H') : LoopX L (fun v _ H' => XR L R v H') (.ref e) ρ H' := by
  obtain ⟨c, d, h1, hm, he, hk⟩ := hx
  refine ⟨e, c, d, rfl, h1, fun T nT hTe => ?_⟩
  have g1 : ((H'.set T (.tb (some L))).set e (.exc c d (some T))) e = some (.exc c d (some T)) := by simp [Hp.set]
  have g2 : ((H'.set T (.tb (some L))).set e (.exc c d (some T))) T = some (.tb (some L)) := by simp [Hp.set, hTe]
  refine ⟨e, c, d, some T, rfl, g1, .inr ⟨T, some L, rfl, g2, .inr rfl⟩, fun H'' T'' e1 e2 e3 => ?_⟩
  refine h e H'' (XNew.is (Hm := (H'.set T (.tb (some L))).set e (.exc c d (some T))) ?_ e1 e2 e3) (fun b nt nn => ?_) he
  · cases x with
    | bad u =>
      obtain ⟨rfl, a, rfl, ha⟩ := hm
      have hae : a ≠ e := fun q => by rw [q, h1] at ha; cases ha
      have haT : a ≠ T := fun q => by rw [q, nT] at ha; cases ha
      exact ⟨rfl, a, rfl, hae, by simp [Hp.set, hae, haT, ha]⟩
    | no c' => exact hm
  · have hbe : b ≠ e := fun q => nn (q ▸ he)
    have h5 := hk b nn
    have hbT : b ≠ T := fun q => by rw [q, nT] at h5; rw [q] at nn; exact nn h5.symm
    have h6 : ((H'.set T (.tb (some L))).set e (.exc c d (some T))) b = H b := by simp [Hp.set, hbe, hbT, h5]
    rw [e3 b hbe (fun fl z => nt fl (h6 ▸ z)) (h6 ▸ nn), h6]
theorem XNew.no {c e : Addr} (he : H e = none) : XNew H (.no c) e (H.set e (.exc c none none)) :=
  ⟨c, none, by simp [Hp.set], ⟨rfl, rfl⟩, he, fun b nb => by
    have : b ≠ e := fun q => nb (q ▸ he)
    simp [Hp.set, this]⟩
theorem XNew.bad {u : V} {e d : Addr} (he : H e = none) (hd : (H.set e (.exc 44 none none)) d = none) (hne : d ≠ e) : XNew H (.bad u) e (((H.set e (.exc 44 none none)).set d (atNs u)).set e (.exc 44 (some d) none)) := by
  have hd' : H d = none := by simpa [Hp.set, hne] using hd
  refine ⟨44, some d, by simp [Hp.set], ⟨rfl, d, rfl, by simp [Hp.set, hne]⟩, he, fun b nb => ?_⟩
  have h1 : b ≠ e := fun q => nb (q ▸ he)
  have h2 : b ≠ d := fun q => nb (q ▸ hd')
  simp [Hp.set, h1, h2]
theorem ExecW.raise0 {c : Addr} {x : Str} {np cpos pos : Pos} {arg : Expr} (hd : C.hd = true) (hc : ExcMk0 C c) (g : GlobalV C x (.con (.ref c))) (pl : Plainly C (.ref c)) (hk : env.kindOf x = some .globalImplicit) (hdb : (x == ("__debug__" : Str)) = false) (hp : (starEach [arg] env).any (·.1) = false) (hst : starEach [arg] env = (false, eval arg env) :: starEach [] env)
    (h : EvalW C k env arg (fun v H' => ∀ e, H' e = none → RS (.ref e) ρ (H'.set e (.exc c none none))) (fun v H' => RS v ρ H') ρ H) :
    ExecW C k env (.Raise (some (.Call (.Name x np) [arg] [] cpos)) none pos) QS RS ρ H := by
  refine ExecW.raise_ hd hc.cls ?_
  refine EvalW.callName g pl hk ?_ hdb (hp := hp)
  refine ArgsW.cons ?_ hst
  refine EvalW.conseq h (fun v H' hv => ?_) fun _ _ r => r
  refine ArgsW.nil ?_
  refine CallW.mkExc0 hc (by simp) fun e he => ?_
  exact ⟨e, none, rfl, by simp [Hp.set], hv e he⟩
end Mine

set_option Elab.async false
set_option maxRecDepth 100000
set_option linter.unusedVariables false
namespace Mine
open PySem PySem.W PyProof.Rows
variable {C : Cx} {k : Nat} {K : Frag} {env : Env} {ρ : Rho} {H : Hp} {PQ : V → Hp → Prop} {QS : Fl → Rho → Hp → Prop} {RS : V → Rho → Hp → Prop} {L : Addr}

inductive HndW (C : Cx) (K : Frag) (k : Nat) (env : Env) (e c : Addr) (PQ : V → Hp → Prop) (ρ : Rho) (H : Hp) : List ExceptHandler → Prop
  | skip {t : Expr} {n : Option Str} {b₀ : Stmt} {suite : List Stmt} {hpos : Pos} {rest : List ExceptHandler} {cX : Addr} (ht : EvalW C.low0 k env t (fun v H' => v = .con (.ref cX) ∧ H' = H) (fun _ _ => False) ρ H) (hm : exmOne K (.ref c) (.ref cX) = some false) (h : HndW C K k env e c PQ ρ H rest) :
      HndW C K k env e c PQ ρ H (.ExceptHandler (some t) n (b₀ :: suite) hpos :: rest)
  | hit {t : Expr} {b₀ : Stmt} {suite : List Stmt} {hpos : Pos} {rest : List ExceptHandler} {cX : Addr} (ht : EvalW C.low0 k env t (fun v H' => v = .con (.ref cX) ∧ H' = H) (fun _ _ => False) ρ H) (hm : exmOne K (.ref c) (.ref cX) = some true)
      (h : ExecsW C.low0 k env (b₀ :: suite) (OnlyRet PQ) (fun _ _ _ => False) ρ H) :
      HndW C K k env e c PQ ρ H (.ExceptHandler (some t) none (b₀ :: suite) hpos :: rest)
  | hitAs {t : Expr} {n : Str} {b₀ : Stmt} {suite : List Stmt} {hpos : Pos} {rest : List ExceptHandler} {cX : Addr} (hn : env.kindOf n = some .local) (ht : EvalW C.low0 k env t (fun v H' => v = .con (.ref cX) ∧ H' = H) (fun _ _ => False) ρ H) (hm : exmOne K (.ref c) (.ref cX) = some true)
      (h : ExecsW C.low0 k env (b₀ :: suite) (OnlyRet PQ) (fun _ _ _ => False) (ρ.set n (.ref e)) H) :
      HndW C K k env e c PQ ρ H (.ExceptHandler (some t) (some n) (b₀ :: suite) hpos :: rest)

theorem hnd_sound {e c T : Addr} {d : Option Addr} (P : PCx C K) {A : Around} (a : Lv C k A) (g1 : H e = some (.exc c d (some T))) (g2 : H T = some (.tb none)) {h₀ : Heap} {H₀ : Hp} (hQ : ∀ u ρ H, PQ u H → QS (.ret u) ρ H) {hs : List ExceptHandler} (h : HndW C K k env e c PQ ρ H hs) :
    ∀ s, SimL C env ρ H s → ExtF env H₀ h₀ H s.heap → wpAny C.M A (handleBy (.ref e) env hs) (PostS C env H₀ h₀ QS) (PostX C env H₀ h₀ RS) s := by
  have av := a.to0 (some (.ref e))
  have LTof : ∀ {s : Shared}, Sim C H s → Looks C.M s.heap (typeOf (.ref e)) (.ref c) := fun S => by
    obtain ⟨oe, vs, e1, e2, _⟩ := S.objs _ _ g1
    exact e2 ▸ (Looks.ld e1).andThen .now
  have hset : H.set T (.tb none) = H := by
    funext b; unfold Hp.set; split
    · rename_i z; rw [z, g2]
    · rfl
  induction h with
  | skip ht hm _ ih =>
    intro s S E
    refine wpAny_handleBy_cons (codeAny_handlers_test (wpAny_mono (ht _ av s S.to0) (fun cv s₄ h₄ => ?_) fun _ _ z => ?_)) (by intro q; cases q)
    · obtain ⟨v', H₄, ⟨rfl, rfl⟩, S₄, rv, E₄⟩ := h₄
      cases rv
      have S₄ := S₄.of0
      refine (exm_one (M := C.M) (P.at S₄) (LTof S₄) hm).here ?_
      exact ih s₄ (S.ext S₄ E₄) (E.trans E₄.toF)
    · obtain ⟨_, _, q, _⟩ := z; exact q.elim
  | hit ht hm h =>
    intro s S E
    refine wpAny_handleBy_cons (codeAny_handlers_test (wpAny_mono (ht _ av s S.to0) (fun cv s₄ h₄ => ?_) fun _ _ z => ?_)) (by intro q; cases q)
    · obtain ⟨v', H₄, ⟨rfl, rfl⟩, S₄, rv, E₄⟩ := h₄
      cases rv
      have S₄ := S₄.of0
      refine (exm_one (M := C.M) (P.at S₄) (LTof S₄) hm).here ?_
      have SL₄ := S.ext S₄ E₄
      refine codeAny_handlers_suite ?_
      refine land_W S₄ g1 g2 fun s₅ S₅ E₅ => ?_
      rw [hset] at S₅ E₅
      have SL₅ := SL₄.ext S₅ E₅
      refine wpAny_mono (h _ av s₅ SL₅.to0) ?_ ?_
      · rintro f s₇ ⟨fl, ρ₇, H₇, ⟨u, rfl, q⟩, rf, S₇, E₇⟩
        exact ⟨_, ρ₇, H₇, hQ _ _ _ q, rf, S₇.of0, ((E.trans E₄.toF).trans E₅.toF).trans E₇⟩
      · rintro e' s₇ ⟨_, _, _, q, _⟩; exact q.elim
    · obtain ⟨_, _, q, _⟩ := z; exact q.elim
  | hitAs hn ht hm h =>
    intro s S E
    refine wpAny_handleBy_cons (codeAny_handlers_test (wpAny_mono (ht _ av s S.to0) (fun cv s₄ h₄ => ?_) fun _ _ z => ?_)) (by intro q; cases q)
    · obtain ⟨v', H₄, ⟨rfl, rfl⟩, S₄, rv, E₄⟩ := h₄
      cases rv
      have S₄ := S₄.of0
      refine (exm_one (M := C.M) (P.at S₄) (LTof S₄) hm).here ?_
      have SL₄ := S.ext S₄ E₄
      refine codeAny_handlers_suite_as ?_
      refine land_W S₄ g1 g2 fun s₅ S₅ E₅ => ?_
      rw [hset] at S₅ E₅
      have SL₅ := SL₄.ext S₅ E₅
      refine store_local (C := C) hn SL₅ (.ref e) fun s₆ S₆ E₆ _ _ => ?_
      refine wpAny_mono (h _ av s₆ S₆.to0) ?_ ?_
      · rintro f s₇ ⟨fl, ρ₇, H₇, ⟨u, rfl, q⟩, rf, S₇, E₇⟩
        refine nameGoes_W hn S₇.of0 fun s₈ S₈ E₈ V₈ => ?_
        exact ⟨_, _, H₇, hQ _ _ _ q, rf.extV V₈, S₈, (((E.trans E₄.toF).trans E₅.toF).trans E₆).trans (E₇.trans E₈)⟩
      · rintro e' s₇ ⟨_, _, _, q, _⟩; exact q.elim
    · obtain ⟨_, _, q, _⟩ := z; exact q.elim
theorem ExecW.try_hs {l : List Env} {body : List Stmt} {h₀ : ExceptHandler} {hs : List ExceptHandler} {pos : Pos} (P : PCx C K) (hC : C.frs = some (env :: l)) (hf : env.frame = some L) (hQ : ∀ u ρ H, PQ u H → QS (.ret u) ρ H)
    (h : ExecsW C k env body QS (Caught (fun e ρ' H' => ∃ c d T, H' e = some (.exc c d (some T)) ∧ H' T = some (.tb none) ∧ HndW C K k env e c PQ ρ' H' (h₀ :: hs)) L) ρ H) :
    ExecW C k env (.Try body (h₀ :: hs) [] [] pos) QS RS ρ H := fun A a s S => by
  have hA := a.frames _ hC
  refine wpAny_Try_except (wpAny_mono (h A a s S) ?_ ?_)
  · rintro f s' ⟨fl, ρ', H', q, rf, S', E'⟩
    cases f with
    | next => exact wpAny_execs_nil ⟨fl, ρ', H', q, rf, S', E'⟩
    | _ => exact ⟨fl, ρ', H', q, rf, S', E'⟩
  · rintro e s₁ ⟨v, ρ₁, H₁, ⟨x, c, d, T0, rfl, hx, hT, hH⟩, rv, S₁, E₁⟩
    cases rv
    refine note_W hA hC hf S₁.sim hx (fun T z => by rcases hT with q | ⟨T', q, w⟩ <;> rw [q] at z <;> cases z; exact w) fun s₂ T' nT S₂ E₂ => ?_
    have hne : T' ≠ x := fun z => by rw [z, hx] at nT; cases nT
    have h1 : ((H₁.set T' (.tb (some L))).set x (.exc c d (some T'))) x = some (.exc c d (some T')) := by simp [Hp.set]
    have h2 : ((H₁.set T' (.tb (some L))).set x (.exc c d (some T'))) T' = some (.tb (some L)) := by simp [Hp.set, hne]
    refine land_W S₂ h1 h2 fun s₃ S₃ E₃ => ?_
    have g1 : (((H₁.set T' (.tb (some L))).set x (.exc c d (some T'))).set T' (.tb none)) x = some (.exc c d (some T')) := by simp [Hp.set, hne.symm]
    have g2 : (((H₁.set T' (.tb (some L))).set x (.exc c d (some T'))).set T' (.tb none)) T' = some (.tb none) := by simp [Hp.set]
    obtain ⟨c', d', T'', g3, g4, hsuite⟩ := hH _ T' g1 g2 fun b hb nt nn => by
      have hbT : b ≠ T' := fun z => by rw [z, nT] at nn; exact nn rfl
      simp [Hp.set, hb, hbT]
    exact hnd_sound P a g3 g4 hQ hsuite s₃ (S₁.ext S₃ (E₂.trans E₃)) (E₁.trans (E₂.trans E₃).toF)
theorem XOut.caught {x : XK} {Hd : Addr → Rho → Hp → Prop} (nt : ∀ b, NTb H b) (h : ∀ e H', XIs x H' e → Hp.le H H' → H e = none → Hd e ρ H') : XOut H x (fun v H' => Caught Hd L v ρ H') := fun e H' hx hk he => by
  obtain ⟨c, d, T, h1, h2⟩ := hx.exc
  refine ⟨e, c, d, some T, rfl, h1, .inr ⟨T, rfl, h2⟩, fun H'' T'' e1 e2 e3 => ?_⟩
  refine h e H'' (XIs.on (Hm := H') ⟨H', hx, h1, fun _ _ _ _ => rfl⟩ e1 e2 e3) (fun b o hb => ?_) he
  have nn : H b ≠ none := by rw [hb]; simp
  have hbe : b ≠ e := fun q => nn (q ▸ he)
  have h5 := hk b (nt b) nn
  rw [e3 b hbe (fun fl z => nt b fl (h5 ▸ z)) (h5 ▸ nn), h5, hb]
end Mine

set_option Elab.async false
set_option maxRecDepth 100000
set_option linter.unusedVariables false
namespace Mine
open PySem PySem.W PyProof.Rows
variable {C : Cx} {k : Nat} {K : Frag} {env : Env} {ρ : Rho} {H : Hp} {Q R : V → Hp → Prop} {QS : Fl → Rho → Hp → Prop} {RS : V → Rho → Hp → Prop}

noncomputable def isT : Value → Bool
  | .bool b => b
  | _ => false
theorem eqT {bs : List Bool} {ys : Array Value} (e : ys.toList = bs.map Value.bool) : ∀ y, y ∈ ys → MeetsSeq.EqGives y (.bool true) (isT y) := fun y hy => by
  have : y ∈ ys.toList := by simpa using hy
  rw [e] at this
  obtain ⟨b, _, rfl⟩ := List.mem_map.mp this
  intro prog w A E s Q h
  exact SeqAt.EqAt.bool_bool b true prog w E Q (by cases b <;> exact h)
theorem MethIs.index {a : Addr} {l : List V} (ha : H a = some (.list l)) : MethIs C H (.ref a) "index" (.builtin "list.index") := MethIs.list ha PySem.F.slot_list_index PySem.F.type_list_index
theorem CallW.countB {a : Addr} {bs : List Bool} (ha : H a = some (.list (bs.map .bool))) (h : Q (.int ((bs.count true : Nat) : Int)) H) : CallW C k (.builtin "list.count") [.ref a, .bool true] Q R H := fun A av s xs S r => by
  cases r with
  | cons r1 r' => cases r' with
    | cons r2 r' =>
      cases r'; cases r1; cases r2
      obtain ⟨xs, ⟨n, ho⟩, rl⟩ := S.objs _ _ ha
      have e := rl.bools
      refine call_meets PySem.F.slot_list_count ⟨_, ho, rfl⟩ PySem.F.entry_list_count (PySem.F.args_list_count_2 _ _) (MeetsSeq.list_count a xs n (.bool true) isT (eqT e)) ⟨ho, ?_⟩
      have : xs.toList.countP isT = bs.count true := by
        rw [e, List.countP_map]
        show List.countP _ bs = List.countP _ bs
        congr 1
        funext b; cases b <;> rfl
      refine Post.here (v := .int ((bs.count true : Nat) : Int)) h (S.toks _) ?_ rfl
      first
        | (rw [this]; exact .int _ _)
        | (simp only [← Array.countP_toList, this]; exact .int _ _)
        | (rw [← this]; simp only [Array.countP_toList]; exact .int _ _)
theorem CallW.indexB {a : Addr} {bs : List Bool} {j : Nat} (ha : H a = some (.list (bs.map .bool))) (hj : bs[j]? = some true) (hno : ∀ m, m < j → bs[m]? = some false) (hn : bs.length ≤ 1000) (h : Q (.int ((j : Nat) : Int)) H) : CallW C k (.builtin "list.index") [.ref a, .bool true] Q R H := fun A av s xs S r => by
  cases r with
  | cons r1 r' => cases r' with
    | cons r2 r' =>
      cases r'; cases r1; cases r2
      obtain ⟨xs, ⟨n, ho⟩, rl⟩ := S.objs _ _ ha
      have e := rl.bools
      have hz : xs.size = bs.length := by have := congrArg List.length e; simpa using this
      have hjl : j < bs.length := (List.getElem?_eq_some_iff.mp hj).1
      have hat : ∀ m (hm : m < xs.size) b, bs[m]? = some b → isT xs[m] = b := fun m hm b hb => by
        have h1 : xs.toList[m]? = some xs[m] := by simp [hm]
        rw [e, List.getElem?_map, hb] at h1
        have := Option.some.inj h1
        rw [← this]; rfl
      refine call_meets PySem.F.slot_list_index ⟨_, ho, rfl⟩ PySem.F.entry_list_index (PySem.F.args_list_index_2 _ _) (MeetsSeq.list_index a xs n (.bool true) isT (eqT e) j (by omega) (by omega) (hat j (by omega) true hj) (fun m hm hlt => hat m hm false (hno m hlt))) ⟨ho, ?_⟩
      exact Post.here h (S.toks _) (.int _ _) rfl
theorem ExecsW.freeze {sts : List Stmt} {x : Str} {a : Addr} {l : List V} (hx : ρ x = some (.ref a)) (ha : H a = some (.list l)) (h : ExecsW C k env sts QS RS (ρ.set x (.lst l)) (H.del a)) : ExecsW C k env sts QS RS ρ H := fun A av s S => by
  have hle : Hp.le (H.del a) H := fun b o e => by
    unfold Hp.del at e; split at e
    · cases e
    · exact e
  have hd : (H.del a) a = none := by simp [Hp.del]
  have EV := ExtV.of_le hle s.heap
  obtain ⟨m, cm, F, rr⟩ := S.frm
  have Sm : Sim C (H.del a) s := S.sim.le hle
  obtain ⟨xs, hpl, rl⟩ := S.sim.objs _ _ ha
  have S' : SimL C env (ρ.set x (.lst l)) (H.del a) s := by
    refine ⟨Sm, S.kind, S.globals, S.builtins, m, cm, ⟨F.ns, F.cell, hle.none _ F.own, fun n c e => hle.none _ (F.ownc n c e), F.above, F.abovec, F.apart⟩, fun y v e => ?_⟩
    unfold Rho.set at e
    split at e
    · rename_i q
      cases e
      have := rr y _ (q ▸ hx)
      have hv : ∀ {u : Value}, VRel s.heap H (.ref a) u → VRel s.heap (H.del a) (.lst l) u := fun {u} r => by
        cases r
        exact .lst hpl.isList hd (rl.extV EV)
      unfold LocRel at this ⊢
      split at this
      · obtain ⟨u, h1, h2⟩ := this; exact ⟨u, h1, hv h2⟩
      · obtain ⟨u, c, h1, h2, h3⟩ := this; exact ⟨u, c, h1, h2, hv h3⟩
      · obtain ⟨u, c, h1, h2, h3⟩ := this; exact ⟨u, c, h1, h2, hv h3⟩
      · trivial
    · exact (rr y v e).extV EV
  have back : ∀ {H' : Hp} {h' : Heap}, ExtF env (H.del a) s.heap H' h' → ExtF env H s.heap H' h' := fun E => ⟨fun b o e n => E.keep b o e (hle.none _ n), fun b o e n => E.grow b o e (hle.none _ n), E.live⟩
  refine wpAny_mono (h A av s S') ?_ ?_
  · rintro f s' ⟨fl, ρ', H', q, r, S1, E1⟩
    exact ⟨fl, ρ', H', q, r, S1, back E1⟩
  · rintro f s' ⟨v, ρ', H', q, r, S1, E1⟩
    exact ⟨v, ρ', H', q, r, S1, back E1⟩
end Mine

set_option Elab.async false
set_option linter.unusedVariables false
namespace Mine
open PySem PySem.W PyProof.Rows
variable {C : Cx} {k : Nat} {env : Env} {ρ : Rho} {H : Hp} {Q R : V → Hp → Prop} {QB : Bool → Hp → Prop}
theorem SubW.tupL {value slice} {u : V} {l : List V} {i : Int} (hi : (decide (0 ≤ i) && decide (i < 1000)) = true) (hx : l[i.toNat]? = some u) (h : Q u H)
    (hs : ∀ o i, subscripted slice false o i = operate [o, i] (getItem o i) := by intros; rfl) : SubW C k value slice (.tup l) (.int i) Q R H := by
  simp only [Bool.and_eq_true, decide_eq_true_eq] at hi
  exact SubW.tup hi.1 (by omega) hx h hs
theorem TestW.conseq {e : Expr} {Q' : Bool → Hp → Prop} (h : TestW C k env e Q' R ρ H) (hq : ∀ b H, Q' b H → QB b H) : TestW C k env e QB R ρ H := fun A a s S =>
  wpAny_mono (h A a s S) (fun x s' ⟨v, H', q, r⟩ => ⟨v, H', hq _ _ q, r⟩) fun _ _ p => p
end Mine

set_option Elab.async false
set_option maxRecDepth 100000
set_option linter.unusedVariables false
namespace Mine
open PySem PySem.W PyProof.Rows
noncomputable abbrev KBx (C : Cx) : Frag := K11 C.w.params
noncomputable def fnTab : List (Str × Addr) := [(Str.ofString "is_place", 129), (Str.ofString "is_wait", 136), (Str.ofString "need", 143), (Str.ofString "goes", 148), (Str.ofString "freed", 155), (Str.ofString "stuck", 160), (Str.ofString "shows", 165), (Str.ofString "_law_cell_at", 259), (Str.ofString "_law_deed", 266), (Str.ofString "_law_by_name", 273), (Str.ofString "_law_by_base", 280), (Str.ofString "_law_said", 287), (Str.ofString "_law_seen", 292), (Str.ofString "_law_wrong", 299)]
section
variable {C : Cx} {k : Nat} {env : Env} {ρ : Rho} {H : Hp} {Q R : V → Hp → Prop}
theorem fnTab_ok {pr : Params} (P : PCx C (K11 pr)) : ∀ e ∈ fnTab, nsIn (K11 pr) mainGlobals e.1 = some (some (.ref e.2)) ∧ Plainly C (.ref e.2) := by
  intro e he
  simp only [fnTab, List.mem_cons, List.not_mem_nil, or_false] at he
  rcases he with rfl | rfl | rfl | rfl | rfl | rfl | rfl | rfl | rfl | rfl | rfl | rfl | rfl | rfl <;> exact ⟨by kernel_rfl, Plainly.ofS P.X rfl⟩
theorem EvalW.callFn {pr : Params} (P : PCx C (K11 pr)) {x : Str} {p : Pos} {args : List Expr} {pos : Pos} {a : Addr} (h : fnTab.lookup x = some a) (hk : env.kindOf x = some .globalImplicit) (hh : ArgsW C k env args (fun vs H₂ => CallW C k (.ref a) vs Q R H₂) R ρ H)
    (hd : (x == ("__debug__" : Str)) = false := by decide) (hp : (starEach args env).any (·.1) = false := by rfl) : EvalW C k env (.Call (.Name x p) args [] pos) Q R ρ H :=
  have q := fnTab_ok P (x, a) (mem_of_lookup h)
  EvalW.callName (PCx.glob P q.1) q.2 hk hh hd hp
end
end Mine

set_option Elab.async false
set_option linter.unusedVariables false
namespace Mine
structure RInv (n : Nat) (N : NetM) : Prop where
  num : ∀ h, h < n → (N.hands h).num = h
  oth : ∀ h, h < n → ∀ x ∈ (N.hands h).others, x < n
  askers : ∀ h, h < n → ∀ x ∈ (N.hands h).askers, x < n
  wak : ∀ h, h < n → ∀ x, (N.hands h).waker = some x → x < n
  row : ∀ t ∈ N.row, t.2.1 < n ∧ t.2.2 < n
theorem r_end_waker {m fl u} (h : (endM m fl).1.waker = some u) : m.waker = some u := by
  unfold endM at h
  split at h
  · split at h
    · cases h
    · exact h
  · exact h
theorem r_come_waker {m w s u} (h : (comeM m w s).1.waker = some u) : m.waker = some u ∨ u = s := by
  unfold comeM at h
  have h1 := r_end_waker h
  rw [mid_waker] at h1
  rcases wake_waker h1 with q | q
  · exact .inl q
  · exact .inr q.1
theorem RInv.bring {n N} (I : RInv n N) (p : Nat) : RInv n (bringM N p).1 := by
  unfold bringM
  split
  · exact I
  · rename_i w s r hp
    have hm := List.mem_of_getElem? hp
    obtain ⟨hs, hr⟩ := I.row _ hm
    have sm := come_same (N.hands r) w s
    refine ⟨fun h hh => ?_, fun h hh => ?_, fun h hh => ?_, fun h hh => ?_, fun t ht => ?_⟩
    · show (upd N.hands r _ h).num = h
      unfold upd; split
      · rename_i e; rw [sm.num, I.num r hr, e]
      · exact I.num h hh
    · show ∀ x ∈ (upd N.hands r _ h).others, x < n
      unfold upd; split
      · rw [sm.others]; exact I.oth r hr
      · exact I.oth h hh
    · show ∀ x ∈ (upd N.hands r _ h).askers, x < n
      unfold upd; split
      · intro x hx
        rcases come_askers hx with q | q
        · rw [q]; exact hs
        · exact I.askers r hr x q
      · exact I.askers h hh
    · show ∀ x, (upd N.hands r _ h).waker = some x → x < n
      unfold upd; split
      · intro x hx
        rcases r_come_waker hx with q | q
        · exact I.wak r hr x q
        · rw [q]; exact hs
      · exact I.wak h hh
    · rcases List.mem_append.mp ht with q | q
      · exact I.row t (List.mem_of_mem_eraseIdx q)
      · obtain ⟨h1, h2⟩ := come_out q
        rw [h1, I.num r hr]
        refine ⟨hr, ?_⟩
        rcases h2 with h2 | h2 | h2 | h2
        · rw [h2]; exact hs
        · exact I.oth r hr _ h2
        · exact I.askers r hr _ h2
        · exact I.wak r hr _ h2
theorem RInv.start (W : List (Option (Bool × List Nat))) (asker : Nat) (ha : asker < W.length) (hW : ∀ w ∈ W, ∀ b l, w = some (b, l) → ∀ x ∈ l, x < W.length) : RInv W.length (netM W asker) := by
  have ho : ∀ h, h < W.length → ∀ x ∈ (startM W asker h).others, x < W.length := fun h hh x hx => by
    unfold startM initM HandM.others at hx
    dsimp only at hx
    split at hx
    · cases hx
    · rename_i b l e
      exact hW (W.getD h none) (by simp [List.getD_eq_getElem?_getD, hh]) b l e x hx
  have sm := begin_same (startM W asker asker)
  have bz := begin_sizes (startM W asker asker)
  have hw0 : (beginM (startM W asker asker)).1.waker = none := by unfold beginM; split <;> rfl
  refine ⟨fun h hh => ?_, fun h hh => ?_, fun h hh => ?_, fun h hh => ?_, fun t ht => ?_⟩
  · show (upd (startM W asker) asker _ h).num = h
    unfold upd; split
    · rename_i e; rw [sm.num, e]; rfl
    · rfl
  · show ∀ x ∈ (upd (startM W asker) asker _ h).others, x < W.length
    unfold upd; split
    · rw [sm.others]; exact ho asker ha
    · exact ho h hh
  · show ∀ x ∈ (upd (startM W asker) asker _ h).askers, x < W.length
    unfold upd; split
    · rw [bz.1]; intro x hx; cases hx
    · intro x hx; cases hx
  · show ∀ x, (upd (startM W asker) asker _ h).waker = some x → x < W.length
    unfold upd; split
    · intro x hx; rw [hw0] at hx; cases hx
    · intro x hx; cases hx
  · obtain ⟨h1, _, h3⟩ := begin_out (m := startM W asker asker) ht
    rw [h1]
    exact ⟨ha, ho asker ha _ h3⟩
end Mine

set_option Elab.async false
set_option linter.unusedVariables false
namespace Mine
open PySem PySem.W PyProof.Rows
variable {C : Cx} {k : Nat} {K : Frag} {env : Env} {ρ : Rho} {H H' : Hp} {Q R : V → Hp → Prop} {QH : Hp → Prop} {m m' : HandM}

noncomputable def refsV (ad : Nat → Addr) (n : Nat) : List V := (List.range n).map fun k => .ref (ad k)
noncomputable def gR (ad : Nat → Addr) (n : Nat) (f : Nat → Option V) : V → Option V
  | .ref a => ((List.range n).find? fun k => decide (ad k = a)).bind f
  | _ => none
theorem gR_ref {ad : Nat → Addr} {n : Nat} {f : Nat → Option V} {j : Nat} (hj : j < n) (inj : ∀ i k, i < n → k < n → ad i = ad k → i = k) : gR ad n f (.ref (ad j)) = f j := by
  unfold gR
  dsimp only
  have : (List.range n).find? (fun k => decide (ad k = ad j)) = some j := by
    cases h : (List.range n).find? (fun k => decide (ad k = ad j)) with
    | none =>
      rw [List.find?_eq_none] at h
      exact absurd (h j (by simpa using hj)) (by simp)
    | some i =>
      have h1 := List.find?_some h
      have h2 := List.mem_of_find?_eq_some h
      rw [inj i j (by simpa using h2) hj (by simpa using h1)]
  rw [this]; rfl
theorem fm_congr {α β : Type} {f g : α → Option β} : ∀ {l : List α}, (∀ x ∈ l, f x = g x) → l.filterMap f = l.filterMap g
  | [], _ => rfl
  | x :: l, h => by
    rw [List.filterMap_cons, List.filterMap_cons, h x (.head _), fm_congr fun y hy => h y (.tail _ hy)]
theorem fm_refs {ad : Nat → Addr} {n : Nat} {f : Nat → Option V} (inj : ∀ i k, i < n → k < n → ad i = ad k → i = k) : (refsV ad n).filterMap (gR ad n f) = (List.range n).filterMap f := by
  unfold refsV
  rw [List.filterMap_map]
  refine fm_congr fun x hx => ?_
  exact gR_ref (by simpa using hx) inj
theorem NetRep.inj {cH cN : Addr} {N : NAd} {As : Nat → HA} {n asker : Nat} {M : NetM} (r : NetRep cH cN H N As n asker M) : ∀ i k, i < n → k < n → (As i).i = (As k).i → i = k := fun i k hi hk e => by
  by_cases q : i = k
  · exact q
  · have h1 := (r.hands i hi).i
    have h2 := (r.hands k hk).i
    rw [e, h2] at h1
    injection h1 with h1
    injection h1 with _ h1
    exact absurd h1.symm (r.sd i k hi hk q).1
theorem hrefs_refs (As : Nat → HA) (n : Nat) : hrefs As n = refsV (fun k => (As k).i) n := rfl
theorem fm_filt (p : Nat → Bool) (g : Nat → Nat) (l : List Nat) : l.filterMap (fun k => if p k = true then some (nv (g k)) else none) = ((l.filter p).map g).map nv := by
  induction l with
  | nil => rfl
  | cons x l ih =>
    rw [List.filterMap_cons, List.filter_cons]
    by_cases h : p x = true
    · simp only [h, if_true, List.map_cons, ih]
    · simp only [h, if_false]; exact ih
end Mine

set_option Elab.async false
set_option linter.unusedVariables false
namespace Mine
open PySem PySem.W PyProof.Rows

theorem ints_rel {h : Heap} {H : Hp} {vals : List Value} {ns : List Int} (hI : IntsAre vals ns) : VRelL h H (ns.map .int) vals := by
  induction hI with
  | nil => exact .nil
  | cons n t _ ih => exact .cons (.int n t) ih

theorem law_glue {prog : Program} {w : World} {s₁ : Shared} {a : Addr} {vals : List Value} {ns : List Int} {f : Value} {S : SpecT} {k : Nat} {c : ClaimW} {cl : Str → Option Addr} {mean : ExcName → Option Value} {args : List WData}
    (low : ∃ o, s₁.heap.get? cStatics = some o) (hg : s₁.gens = #[]) (hL : s₁.heap.IsList a vals.toArray) (hI : IntsAre vals ns)
    (hf : FnOK ⟨prog, w, s₁.heap, s₁.os, true, low, some []⟩ k f S) (hk : k ≤ 20)
    (hS : S [.lst (ns.map .int)] (fun v _ => v = .bool true) (fun _ _ => False) (fun _ => Option.none))
    (hr : ∀ cls, c.raises args cls = false) (hp : c.post args (.bool true) args = true) :
    codeAny (model prog w) callerA (.call f ⟨[.ref a], []⟩) (GoodWG c cl mean args s₁) s₁ := by
  have lv : Lv ⟨prog, w, s₁.heap, s₁.os, true, low, some []⟩ k callerA := by
    refine ⟨fun _ => rfl, ?_, ?_, fun l e => by cases e; rfl⟩
    · have : callerA.depth + 2 * 20 + 100 < recursionLimit := by decide +kernel
      omega
    · have : callerA.units + 40 * 20 + 100 < cLine := by decide +kernel
      omega
  have sim : Sim ⟨prog, w, s₁.heap, s₁.os, true, low, some []⟩ (fun _ => Option.none) s₁ := ⟨fun _ _ e => e, hg, rfl, fun _ _ e => (nomatch e), fun _ e => absurd rfl e, fun l e env m => by cases e; cases m⟩
  refine codeAny_mono (hf callerA lv s₁ (fun _ => Option.none) [.lst (ns.map .int)] [.ref a] _ _ sim (.cons (.lst hL rfl (by simpa using ints_rel hI)) .nil) hS) ?_
  intro r s' p
  rcases r with e | (_ | _ | _ | v)
  · obtain ⟨_, _, q, _⟩ := p; exact q.elim
  · exact p.elim
  · exact p.elim
  · exact p.elim
  · obtain ⟨_, H', rfl, S', rv, E⟩ := p
    cases rv
    exact GoodW.toG ⟨.inl ⟨_, .bool true, [], rfl, hr, .bool true, hp, fun _ => ⟨List.nodup_nil, fun _ h => by cases h⟩⟩, S'.keep, S'.os, S'.gens⟩
end Mine

set_option Elab.async false
set_option maxRecDepth 100000
set_option linter.unusedVariables false
namespace Mine
open PySem PySem.W PyProof.Rows

set_option compiler.extract_closed false
local macro_rules
  | `(tactic| walk_at "v") => `(tactic| with_reducible first
    | (refine gE ?_; first
      | (refine gName ?_; first
        | refine EvalW.local_ (by with_unfolding_all rfl) ?_ (by with_unfolding_all rfl)
        | refine EvalW.cell (by with_unfolding_all rfl) ?_ (by with_unfolding_all rfl)
        | refine EvalW.free (by with_unfolding_all rfl) ?_ (by with_unfolding_all rfl)
        | refine EvalW.global (PCx.blt (by assumption) (by kernel_rfl) (by boot_fast)) ?_ (by with_unfolding_all rfl))
      | (refine gConst ?_; first
        | refine EvalW.int ?_
        | refine EvalW.none ?_
        | refine EvalW.bool ?_
        | refine EvalW.str ?_)
      | (refine gCall ?_; first
        | refine EvalW.callName (x := Str.ofString "Hand") (PCx.glob (v := .ref 118) (by assumption) (by kernel_rfl)) (Plainly.cls (by assumption) (by kernel_rfl)) (by with_unfolding_all rfl) ?_ (hp := by with_unfolding_all rfl)
        | refine EvalW.callName (x := Str.ofString "Net") (PCx.glob (v := .ref 248) (by assumption) (by kernel_rfl)) (Plainly.cls (by assumption) (by kernel_rfl)) (by with_unfolding_all rfl) ?_ (hp := by with_unfolding_all rfl)
        | refine EvalW.callFn (by assumption) (by with_unfolding_all rfl) (by with_unfolding_all rfl) ?_ (hp := by with_unfolding_all rfl)
        | refine EvalW.callName (PCx.blt (by assumption) (by kernel_rfl) (by boot_fast)) (by first | exact Plainly.builtin _ | exact Plainly.type _) (by with_unfolding_all rfl) ?_ (hp := by with_unfolding_all rfl)
        | refine EvalW.method ?_ (by with_unfolding_all rfl) (by with_unfolding_all rfl))
      | refine EvalW.sub ?_
      | refine EvalW.attr ?_
      | refine EvalW.listMul ?_ (by with_unfolding_all rfl)
      | refine EvalW.binop ?_
      | refine EvalW.compare ?_
      | refine EvalW.compare2 ?_
      | refine EvalW.not ?_
      | refine EvalW.and ?_
      | refine EvalW.or ?_
      | refine EvalW.and_one ?_
      | refine EvalW.tuple ?_)
    | (refine gA ?_; first
      | refine ArgsW.cons ?_ (by with_unfolding_all rfl)
      | refine ArgsW.nil ?_)
    | (refine gB ?_; first
      | refine BinW.add ?_
      | refine BinW.mod (by first | decide | omega) ?_
      | refine BinW.floordiv (by first | decide | omega) (by first | decide | omega) ?_
      | refine BinW.sub ?_)
    | (refine gC ?_; first
      | refine CmpW.lt ?_
      | refine CmpW.le ?_
      | refine CmpW.gt ?_
      | refine CmpW.ge ?_
      | refine CmpW.eqI ?_
      | refine CmpW.neI ?_
      | refine CmpW.eqS ?_
      | refine CmpW.neS ?_)
    | (refine gAt ?_; refine HandRep.get (by assumption) (by assumption) (by assumption) (by with_unfolding_all decide) (by with_unfolding_all rfl) (by first | with_unfolding_all rfl | exact ov_plain _) ?_)
    | (refine gAt ?_; refine NetRep.get (by assumption) (by assumption) (by assumption) (by with_unfolding_all decide) (by with_unfolding_all rfl) (by with_unfolding_all rfl) ?_)
    | refine TruthW.bool ?_
    | (refine gT ?_; first
      | refine TestW.compare ?_
      | refine TestW.compare2 ?_
      | refine TestW.not ?_
      | refine TestW.and ?_
      | refine TestW.or ?_
      | refine TestW.and_nil ?_
      | refine TestW.or_nil ?_
      | refine TestW.plain ?_ (by intro; with_unfolding_all rfl))
    | (refine gX ?_; first
      | refine ExecsW.cons ?_
      | refine ExecsW.nil ?_)
    | refine Cont.next ?_
    | refine Cont.ret ?_
    | (refine gS ?_; first
      | refine ExecW.if_ ?_
      | refine ExecW.ret ?_
      | refine ExecW.assign (Storable.l (by with_unfolding_all rfl)) ?_ (by with_unfolding_all rfl)
      | refine ExecW.assign (Storable.c (by with_unfolding_all rfl) (by with_unfolding_all rfl)) ?_ (by with_unfolding_all rfl)
      | refine ExecW.assign_sub ?_ (by with_unfolding_all rfl)
      | refine ExecW.assign_attr ?_ (by with_unfolding_all rfl)
      | refine ExecW.expr ?_ (by with_unfolding_all rfl) (by with_unfolding_all rfl)))
  | `(tactic| walk_at "w") => `(tactic| repeat walk_at "v")
variable {C : Cx}
theorem mk44 (P : PCx C (KBx C)) : ExcMk C 44 41 := by
  refine ⟨_, _, 43, _, _, _, _, _, _, _, _, _, _, _, _, _, _, _, P.X _ _ rfl, ?_, ns_of P.X rfl (by kernel_rfl), by kernel_rfl, P.X _ _ rfl, rfl⟩
  exact .own (P.X _ _ rfl) (ns_of P.X rfl (by kernel_rfl)) (by kernel_rfl) .base
theorem mk56 (P : PCx C (KBx C)) : ExcMk0 C 56 := by
  refine ⟨⟨_, _, 55, _, _, _, _, _, _, _, _, _, _, _, _, _, _, P.X _ _ rfl, ?_, ns_of P.X rfl (by kernel_rfl), by kernel_rfl⟩, P.mods⟩
  exact .own (P.X _ _ rfl) (ns_of P.X rfl (by kernel_rfl)) (by kernel_rfl) .base
theorem mk68 (P : PCx C (KBx C)) : ExcMk0 C 68 := by
  refine ⟨⟨_, _, 67, _, _, _, _, _, _, _, _, _, _, _, _, _, _, P.X _ _ rfl, ?_, ns_of P.X rfl (by kernel_rfl), by kernel_rfl⟩, P.mods⟩
  exact .own (P.X _ _ rfl) (ns_of P.X rfl (by kernel_rfl)) (by kernel_rfl) .base

theorem cls44 (P : PCx C (KBx C)) : ExcCls C 44 := by
  obtain ⟨nm, q, N, bs, bm, hdct, sn, sub, ab, col, dd, k0, k1, k2, k3, k5, mN, oI, hC, hT, _⟩ := (mk44 P).all
  exact ⟨nm, q, N, bs, bm, hdct, sn, sub, ab, col, dd, k0, k1, k2, k3, k5, hC, hT⟩
theorem ok44 (C : Cx) : ExcOk (KBx C) 44 := ⟨by kernel_rfl, by kernel_rfl, by kernel_rfl, by kernel_rfl⟩
noncomputable def S_binit : SpecT := fun args Q R H => ∃ (e : Addr) (v : V), args = [.ref e, v] ∧ H e = some (.exc 44 none none) ∧ ∀ d, H d = none → d ≠ e → Q .none ((H.set d (.ns (Rho.set (Rho.of []) (Str.ofString "at") v) 1)).set e (.exc 44 (some d) none))
set_option maxHeartbeats 4000000 in
theorem binit_ok (P : PCx C (KBx C)) (k : Nat) : FnOK C (k + 1) (.ref 41) S_binit := by
  refine FnOK.ofS (K := KBx C) [Str.ofString "self", Str.ofString "at"] P rfl rfl (by kernel_rfl) ?_ (by kernel_rfl) (by kernel_rfl) ?_
  · intro vals h
    rcases vals with _ | ⟨a, _ | ⟨b, _ | ⟨c, t⟩⟩⟩ <;> simp at h
    rfl
  · rintro args Q R H ⟨e, v, rfl, he, hQ⟩
    refine ⟨rfl, fun L P => ?_⟩
    refine ExecsW.cons ?_
    refine ExecW.expr ?_ (by with_unfolding_all rfl) (by with_unfolding_all rfl)
    refine EvalW.methodC ?_ (by with_unfolding_all rfl) (by with_unfolding_all rfl)
    refine EvalW.global (PCx.glob (v := .ref 24) P (by kernel_rfl)) ?_ (by with_unfolding_all rfl)
    refine ⟨.builtin "ValueError.__init__", MethC.cls P (by kernel_rfl) (by kernel_rfl) (by kernel_rfl) rfl, Plainly.builtin _, ?_⟩
    walk_at "w"
    refine CallW.excInit (cls44 P) he ?_
    walk_at "w"
    refine SetAttrW.exc P (ok44 _) he (by kernel_rfl) fun d hd hne => ?_
    walk_at "w"
    exact ⟨.none, _, Fz.refl, hQ d hd hne⟩

theorem ok56 (C : Cx) : ExcOk (KBx C) 56 := ⟨by kernel_rfl, by kernel_rfl, by kernel_rfl, by kernel_rfl⟩
theorem ok68 (C : Cx) : ExcOk (KBx C) 68 := ⟨by kernel_rfl, by kernel_rfl, by kernel_rfl, by kernel_rfl⟩

noncomputable def isPlaceV : V → Int → Bool
  | .int i, m => decide (0 ≤ i) && decide (i < m)
  | _, _ => false
noncomputable def S_placeV : SpecT := fun args Q R H => ∃ (v : V) (m : Int) (T : String), args = [v, .int m] ∧ tyOf H v = some T ∧ Q (.bool (isPlaceV v m)) H
set_option maxHeartbeats 4000000 in
theorem placeV_ok (P : PCx C (KBx C)) (k : Nat) : FnOK C (k + 1) (.ref 129) S_placeV := by
  refine FnOK.ofS (K := KBx C) [Str.ofString "thing", Str.ofString "many"] P rfl rfl (by kernel_rfl) ?_ (by kernel_rfl) (by kernel_rfl) ?_
  · intro vals h
    rcases vals with _ | ⟨a, _ | ⟨b, _ | ⟨c, t⟩⟩⟩ <;> simp at h
    rfl
  · rintro args Q R H ⟨v, m, T, rfl, hT, hQ⟩
    refine ⟨rfl, fun L P => ?_⟩
    by_cases hI : isSub T "int" = false
    · have hv : isPlaceV v m = false := by
        cases v with
        | int i => cases hT; exact absurd hI (by decide +kernel)
        | _ => rfl
      rw [hv] at hQ
      walk_at "w"
      refine CallW.isi_int hT ?_
      rw [hI]
      walk_at "w"
      refine ite_f rfl ?_
      walk_at "w"
      exact RetQ.here hQ
    · have hI : isSub T "int" = true := by simpa using hI
      walk_at "w"
      refine CallW.isi_int hT ?_
      rw [hI]
      walk_at "w"
      refine ite_t rfl ?_
      walk_at "w"
      refine CallW.isi_bool hT ?_
      walk_at "w"
      by_cases hB : isSub T "bool" = true
      · have hv : isPlaceV v m = false := by
          cases v with
          | int i => cases hT; exact absurd hB (by decide +kernel)
          | _ => rfl
        rw [hv] at hQ
        rw [hB]
        refine ite_f rfl ?_
        walk_at "w"
        exact RetQ.here hQ
      · have hB : isSub T "bool" = false := by simpa using hB
        rw [hB]
        refine ite_t rfl ?_
        obtain ⟨i, rfl⟩ : ∃ i, v = .int i := by
          cases v with
          | int i => exact ⟨i, rfl⟩
          | none => cases hT; exact absurd hI (by decide +kernel)
          | bool b => cases hT; exact absurd hB (by decide +kernel)
          | str s => cases hT; exact absurd hI (by decide +kernel)
          | tup l => cases hT; exact absurd hI (by decide +kernel)
          | lst l => cases hT; exact absurd hI (by decide +kernel)
          | ref a =>
            simp only [tyOf] at hT
            split at hT <;> first | (cases hT; exact absurd hI (by decide +kernel)) | cases hT
          | con u => cases hT
        have hQ : Q (.bool (decide (0 ≤ i) && decide (i < m))) H := hQ
        walk_at "w"
        refine ite_w (fun h => ?_) fun h => ?_
        · walk_at "w"
          refine RetQ.here ?_
          rw [h] at hQ; exact hQ
        · walk_at "w"
          refine RetQ.here ?_
          rw [h] at hQ ⊢; exact hQ

section
variable {k : Nat} {env : Env} {ρ : Rho} {H : Hp} {QS : Fl → Rho → Hp → Prop} {RS : V → Rho → Hp → Prop}
theorem ExecW.raise44 (P : PCx C (KBx C)) {np cpos pos : Pos} {arg : Expr} (hk : env.kindOf (Str.ofString "BadWaits") = some .globalImplicit) (hp : (starEach [arg] env).any (·.1) = false) (hst : starEach [arg] env = (false, eval arg env) :: starEach [] env)
    (h : EvalW C (k + 2) env arg (fun v H' => ∀ e H'', XNew H' (.bad v) e H'' → RS (.ref e) ρ H'') (fun v H' => RS v ρ H') ρ H) :
    ExecW C (k + 2) env (.Raise (some (.Call (.Name (Str.ofString "BadWaits") np) [arg] [] cpos)) none pos) QS RS ρ H := by
  refine ExecW.raise_ P.hd (cls44 P) ?_
  refine EvalW.callName (x := Str.ofString "BadWaits") (PCx.glob (v := .ref 44) P (by kernel_rfl)) (Plainly.cls P (by kernel_rfl)) hk ?_ (hp := hp)
  refine ArgsW.cons ?_ hst
  refine EvalW.conseq h (fun v H' hv => ?_) fun _ _ r => r
  refine ArgsW.nil ?_
  refine CallW.mkExc (mk44 P) (binit_ok P k) (by simp) fun e he => ?_
  refine ⟨e, v, rfl, by simp [Hp.set], fun d hd hne => ⟨rfl, e, some d, rfl, by simp [Hp.set], hv e _ (XNew.bad he hd hne)⟩⟩
theorem ExecW.raise56 (P : PCx C (KBx C)) {np cpos pos : Pos} {arg : Expr} (hk : env.kindOf (Str.ofString "NoHand") = some .globalImplicit) (hp : (starEach [arg] env).any (·.1) = false) (hst : starEach [arg] env = (false, eval arg env) :: starEach [] env)
    (h : EvalW C k env arg (fun v H' => ∀ e H'', XNew H' (.no 56) e H'' → RS (.ref e) ρ H'') (fun v H' => RS v ρ H') ρ H) :
    ExecW C k env (.Raise (some (.Call (.Name (Str.ofString "NoHand") np) [arg] [] cpos)) none pos) QS RS ρ H :=
  ExecW.raise0 P.hd (mk56 P) (PCx.glob (v := .ref 56) P (by kernel_rfl)) (Plainly.cls P (by kernel_rfl)) hk (by decide) hp hst (EvalW.conseq h (fun v H' hv e he => hv e _ (XNew.no he)) fun _ _ r => r)
theorem ExecW.raise68 (P : PCx C (KBx C)) {np cpos pos : Pos} {arg : Expr} (hk : env.kindOf (Str.ofString "NoLetter") = some .globalImplicit) (hp : (starEach [arg] env).any (·.1) = false) (hst : starEach [arg] env = (false, eval arg env) :: starEach [] env)
    (h : EvalW C k env arg (fun v H' => ∀ e H'', XNew H' (.no 68) e H'' → RS (.ref e) ρ H'') (fun v H' => RS v ρ H') ρ H) :
    ExecW C k env (.Raise (some (.Call (.Name (Str.ofString "NoLetter") np) [arg] [] cpos)) none pos) QS RS ρ H :=
  ExecW.raise0 P.hd (mk68 P) (PCx.glob (v := .ref 68) P (by kernel_rfl)) (Plainly.cls P (by kernel_rfl)) hk (by decide) hp hst (EvalW.conseq h (fun v H' hv e he => hv e _ (XNew.no he)) fun _ _ r => r)
end
set_option maxHeartbeats 4000000 in
theorem cell_ok (P : PCx C (KBx C)) (k : Nat) : FnOK C (k + 1) (.ref 259) S_cell := by
  refine FnOK.ofS (K := KBx C) [Str.ofString "_law_script", Str.ofString "_law_k"] P rfl rfl (by kernel_rfl) ?_ (by kernel_rfl) (by kernel_rfl) ?_
  · intro vals h
    rcases vals with _ | ⟨a, _ | ⟨b, _ | ⟨c, t⟩⟩⟩ <;> simp at h
    rfl
  · rintro args Q R H ⟨ns, i, rfl, hi, hn, hQ⟩
    refine ⟨rfl, fun L P => ?_⟩
    walk_at "w"
    refine CallW.len rfl (by simp; omega) ?_
    walk_at "w"
    refine ite_w (fun h => ?_) fun h => ?_
    · simp at h
      walk_at "w"
      refine SubW.list (l := ns.map .int) rfl hi (by omega) (u := .int (cellV ns i)) ?_ ?_
      · have : i.toNat < ns.length := by omega
        simp [cellV, this]
      · exact ⟨_, _, Fz.refl, hQ⟩
    · simp at h
      walk_at "w"
      refine ⟨_, _, Fz.refl, ?_⟩
      have : cellV ns i = 0 := by simp [cellV]; rw [List.getElem?_eq_none (by omega)]; rfl
      rw [this] at hQ; exact hQ

set_option maxHeartbeats 4000000 in
theorem is_place_ok (P : PCx C (KBx C)) (k : Nat) : FnOK C (k + 1) (.ref 129) S_is_place := by
  refine FnOK.ofS (K := KBx C) [Str.ofString "thing", Str.ofString "many"] P rfl rfl (by kernel_rfl) ?_ (by kernel_rfl) (by kernel_rfl) ?_
  · intro vals h
    rcases vals with _ | ⟨a, _ | ⟨b, _ | ⟨c, t⟩⟩⟩ <;> simp at h
    rfl
  · rintro args Q R H ⟨i, m, rfl, hQ⟩
    refine ⟨rfl, fun L P => ?_⟩
    walk_at "w"
    refine CallW.isi_int rfl ?_
    walk_at "w"
    refine ite_t rfl ?_
    walk_at "w"
    refine CallW.isi_bool rfl ?_
    walk_at "w"
    refine ite_t rfl ?_
    walk_at "w"
    refine ite_w (fun h => ?_) fun h => ?_
    · walk_at "w"
      refine RetQ.here ?_
      rw [h] at hQ; exact hQ
    · walk_at "w"
      refine RetQ.here ?_
      rw [h] at hQ ⊢; exact hQ

variable {C : Cx}

inductive BadH (m : Int) : List V → List Int → Prop
  | odd {v : V} {l : List V} {seen : List Int} (h : isPlaceV v m = false) : BadH m (v :: l) seen
  | twice {i : Int} {l : List V} {seen : List Int} (h : isPlaceV (.int i) m = true) (hs : i ∈ seen) : BadH m (.int i :: l) seen
  | next {i : Int} {l : List V} {seen : List Int} (h : isPlaceV (.int i) m = true) (hs : i ∉ seen) (r : BadH m l (i :: seen)) : BadH m (.int i :: l) seen
inductive BadV (H : Hp) (m : Int) : V → Prop
  | kind {v : V} {T : String} (ht : tyOf H v = some T) (hT : isSub T "tuple" = false) (hn : v.isNone = false) (hc : v.notCon) : BadV H m v
  | len {l : List V} (h : l.length ≠ 2) (hz : l.length ≤ 1000) : BadV H m (.tup l)
  | first {a b : V} {T : String} (ht : tyOf H a = some T) (hT : isSub T "str" = false) : BadV H m (.tup [a, b])
  | word {w : Str} {b : V} (h1 : (w != Str.ofString "all") = true) (h2 : (w != Str.ofString "any") = true) : BadV H m (.tup [.str w, b])
  | list {w : Str} {b : V} {T : String} (hw : w = Str.ofString "all" ∨ w = Str.ofString "any") (ht : tyOf H b = some T) (hT : isSub T "list" = false) : BadV H m (.tup [.str w, b])
  | empty {w : Str} (hw : w = Str.ofString "all" ∨ w = Str.ofString "any") : BadV H m (.tup [.str w, .lst []])
  | hands {w : Str} {l : List V} (hw : w = Str.ofString "all" ∨ w = Str.ofString "any") (hl : l ≠ []) (hz : l.length ≤ 100) (ht : ∀ x ∈ l, ∃ T, tyOf H x = some T) (hp : pureL l = true) (ho : okD (.list (datL l)) = true) (hb : BadH m l []) : BadV H m (.tup [.str w, .lst l])
noncomputable def S_badwait : SpecT := fun args Q R H => ∃ (v : V) (m : Int), args = [v, .int m] ∧ BadV H m v ∧ Q (.bool false) H
set_option maxHeartbeats 4000000 in
theorem badwait_ok (P : PCx C (KBx C)) (k : Nat) : FnOK C (k + 2) (.ref 136) S_badwait := by
  refine FnOK.ofS (K := KBx C) [Str.ofString "thing", Str.ofString "many"] P rfl rfl (by kernel_rfl) ?_ (by kernel_rfl) (by kernel_rfl) ?_
  · intro vals h
    rcases vals with _ | ⟨a, _ | ⟨b, _ | ⟨c, t⟩⟩⟩ <;> simp at h
    rfl
  · rintro args Q R H ⟨v, m, rfl, hb, hQ⟩
    refine ⟨rfl, fun L P => ?_⟩
    cases hb with
    | kind ht hT hn hc =>
      walk_at "w"
      refine CmpW.isNone hc ?_
      rw [hn]
      walk_at "w"
      refine ite_f rfl ?_
      walk_at "w"
      refine CallW.isi_tuple ht ?_
      rw [hT]
      walk_at "w"
      refine ite_t rfl ?_
      refine ite_t rfl ?_
      walk_at "w"
      exact RetQ.here hQ
    | len h hz =>
      walk_at "w"
      refine CmpW.isNone trivial ?_
      walk_at "w"
      refine ite_f rfl ?_
      walk_at "w"
      refine CallW.isi_tuple rfl ?_
      walk_at "w"
      refine ite_f rfl ?_
      walk_at "w"
      refine CallW.lenT (by omega) ?_
      walk_at "w"
      refine ite_t (by simp; omega) ?_
      refine ite_t rfl ?_
      walk_at "w"
      exact RetQ.here hQ
    | first ht hT =>
      walk_at "w"
      refine CmpW.isNone trivial ?_
      walk_at "w"
      refine ite_f rfl ?_
      walk_at "w"
      refine CallW.isi_tuple rfl ?_
      walk_at "w"
      refine ite_f rfl ?_
      walk_at "w"
      refine CallW.lenT (by simp) ?_
      walk_at "w"
      refine ite_f rfl ?_
      walk_at "w"
      refine SubW.tupL rfl rfl ?_
      walk_at "w"
      refine CallW.isi_str ht ?_
      rw [hT]
      walk_at "w"
      refine ite_t rfl ?_
      refine ite_t rfl ?_
      walk_at "w"
      exact RetQ.here hQ
    | word h1 h2 =>
      walk_at "w"
      refine CmpW.isNone trivial ?_
      walk_at "w"
      refine ite_f rfl ?_
      walk_at "w"
      refine CallW.isi_tuple rfl ?_
      walk_at "w"
      refine ite_f rfl ?_
      walk_at "w"
      refine CallW.lenT (by simp) ?_
      walk_at "w"
      refine ite_f rfl ?_
      walk_at "w"
      refine SubW.tupL rfl rfl ?_
      walk_at "w"
      refine CallW.isi_str rfl ?_
      walk_at "w"
      refine ite_f rfl ?_
      walk_at "w"
      refine ite_f rfl ?_
      walk_at "w"
      refine SubW.tupL rfl rfl ?_
      walk_at "w"
      refine ite_t h1 ?_
      walk_at "w"
      refine SubW.tupL rfl rfl ?_
      walk_at "w"
      refine ite_t h2 ?_
      walk_at "w"
      refine ite_t rfl ?_
      refine ite_t rfl ?_
      walk_at "w"
      exact RetQ.here hQ
    | list hw ht hT =>
      walk_at "w"
      refine CmpW.isNone trivial ?_
      walk_at "w"
      refine ite_f rfl ?_
      walk_at "w"
      refine CallW.isi_tuple rfl ?_
      walk_at "w"
      refine ite_f rfl ?_
      walk_at "w"
      refine CallW.lenT (by simp) ?_
      walk_at "w"
      refine ite_f rfl ?_
      walk_at "w"
      refine SubW.tupL rfl rfl ?_
      walk_at "w"
      refine CallW.isi_str rfl ?_
      walk_at "w"
      refine ite_f rfl ?_
      walk_at "w"
      refine ite_f rfl ?_
      repeat ((fail_if_success (refine TestW.and ?_)); walk_at "v")
      refine TestW.conseq (Q' := fun b H' => b = false ∧ H = H') ?_ ?_
      · walk_at "w"
        refine SubW.tupL rfl rfl ?_
        walk_at "w"
        rcases hw with rfl | rfl
        · refine ite_f rfl ?_
          exact ⟨rfl, rfl⟩
        · refine ite_t rfl ?_
          walk_at "w"
          refine SubW.tupL rfl rfl ?_
          walk_at "w"
          refine ite_f rfl ?_
          exact ⟨rfl, rfl⟩
      rintro _ _ ⟨rfl, rfl⟩
      refine ite_f rfl ?_
      walk_at "w"
      refine SubW.tupL rfl rfl ?_
      walk_at "w"
      refine CallW.isi_list ht ?_
      rw [hT]
      walk_at "w"
      refine ite_t rfl ?_
      refine ite_t rfl ?_
      walk_at "w"
      exact RetQ.here hQ
    | hands hw hl hz ht hp ho hb =>
      rename_i w l
      walk_at "w"
      refine CmpW.isNone trivial ?_
      walk_at "w"
      refine ite_f rfl ?_
      walk_at "w"
      refine CallW.isi_tuple rfl ?_
      walk_at "w"
      refine ite_f rfl ?_
      walk_at "w"
      refine CallW.lenT (by simp) ?_
      walk_at "w"
      refine ite_f rfl ?_
      walk_at "w"
      refine SubW.tupL rfl rfl ?_
      walk_at "w"
      refine CallW.isi_str rfl ?_
      walk_at "w"
      refine ite_f rfl ?_
      walk_at "w"
      refine ite_f rfl ?_
      repeat ((fail_if_success (refine TestW.and ?_)); walk_at "v")
      refine TestW.conseq (Q' := fun b H' => b = false ∧ H = H') ?_ ?_
      · walk_at "w"
        refine SubW.tupL rfl rfl ?_
        walk_at "w"
        rcases hw with rfl | rfl
        · refine ite_f rfl ?_
          exact ⟨rfl, rfl⟩
        · refine ite_t rfl ?_
          walk_at "w"
          refine SubW.tupL rfl rfl ?_
          walk_at "w"
          refine ite_f rfl ?_
          exact ⟨rfl, rfl⟩
      rintro _ _ ⟨rfl, rfl⟩
      refine ite_f rfl ?_
      walk_at "w"
      refine SubW.tupL rfl rfl ?_
      walk_at "w"
      refine CallW.isi_list rfl ?_
      walk_at "w"
      refine ite_f rfl ?_
      walk_at "w"
      refine SubW.tupL rfl rfl ?_
      refine EvalW.list_fz ?_
      walk_at "w"
      refine ⟨by simp, ?_⟩
      refine CmpW.eq hp rfl ho (show okD (.list (datL [])) = true by decide +kernel) ?_
      have e0 : PyData.eqv (see H (V.lst l)).dat (see H (V.lst [])).dat = false := by
        cases l with
        | nil => exact absurd rfl hl
        | cons x r => rfl
      rw [e0]
      walk_at "w"
      refine ite_f rfl ?_
      walk_at "w"
      refine ite_f rfl ?_
      walk_at "w"
      refine EvalW.dictI fun a ha => ?_
      walk_at "w"
      refine ExecW.for_in false P.hd (fun e => by cases e) ?_
      refine IterE.list ?_
      walk_at "w"
      refine SubW.tupL rfl rfl ?_
      refine ⟨_, rfl, fun r l' H' => ∃ (seen : List Int) (d : Int → Option V) (n : Nat), BadH m r seen ∧ (∀ x ∈ r, x ∈ l) ∧ n + r.length ≤ 100 ∧ l' = [(Str.ofString "many", V.int m), (Str.ofString "met", V.ref a)] ∧ H' a = some (.dictI d n) ∧ (∀ x, (d x).isSome = true ↔ x ∈ seen) ∧ Hp.le H H', ?_, ?_, ?_, ?_⟩
      · exact ⟨_, ⟨[], _, 0, hb, fun _ h => h, by omega, rfl, Hp.set_self .., fun _ => by simp, Hp.le_set ha⟩, rfl, rfl, trivial⟩
      · rintro r l' H' _; rfl
      · rintro v r l' H' ⟨seen, d, n, hbr, hm, hnn, rfl, g1, g2, g3⟩
        obtain ⟨T, hT⟩ := ht v (hm v (.head _))
        have hT' : tyOf H' v = some T := by
          cases v with
          | ref b =>
            simp only [tyOf] at hT ⊢
            cases q : H b with
            | none => rw [q] at hT; cases hT
            | some o => rw [g3 _ _ q]; rw [q] at hT; exact hT
          | _ => exact hT
        rw [List.length_cons] at hnn
        refine AssignW.name (Or.inl rfl) ?_
        walk_at "w"
        refine (placeV_ok P _).call ⟨v, m, T, rfl, hT', ?_⟩
        walk_at "w"
        cases hbr with
        | odd h =>
          rw [h]
          refine ite_t rfl ?_
          refine ite_t rfl ?_
          walk_at "w"
          exact RetQ.fz (ρ := fun _ => Option.none) (Fz.drop g3) hQ
        | twice h hs =>
          rw [h]
          refine ite_f rfl ?_
          walk_at "w"
          refine CmpW.inI g1 ?_
          walk_at "w"
          refine ite_t ((g2 _).mpr hs) ?_
          refine ite_t rfl ?_
          walk_at "w"
          exact RetQ.fz (ρ := fun _ => Option.none) (Fz.drop g3) hQ
        | next h hs hr =>
          rename_i i
          rw [h]
          refine ite_f rfl ?_
          walk_at "w"
          refine CmpW.inI g1 ?_
          walk_at "w"
          have hd0 : (d i).isSome = false := by
            cases q : (d i).isSome with
            | false => rfl
            | true => exact absurd ((g2 i).mp q) hs
          refine ite_f hd0 ?_
          walk_at "w"
          refine ite_f rfl ?_
          walk_at "w"
          refine SetW.dictI g1 (by omega) ?_
          walk_at "w"
          refine ⟨_, ⟨i :: seen, _, n + 1, hr, fun x hx => hm x (.tail _ hx), by omega, rfl, Hp.set_self .., fun x => ?_, Hp.le_set' g3 ha⟩, rfl, rfl, trivial⟩
          by_cases q : x = i
          · subst q; simp
          · simp only [q, if_false]; rw [g2 x]; simp [q]
      · rintro l' H' ⟨seen, d, n, hbr, _⟩
        cases hbr
    | empty hw =>
      walk_at "w"
      refine CmpW.isNone trivial ?_
      walk_at "w"
      refine ite_f rfl ?_
      walk_at "w"
      refine CallW.isi_tuple rfl ?_
      walk_at "w"
      refine ite_f rfl ?_
      walk_at "w"
      refine CallW.lenT (by simp) ?_
      walk_at "w"
      refine ite_f rfl ?_
      walk_at "w"
      refine SubW.tupL rfl rfl ?_
      walk_at "w"
      refine CallW.isi_str rfl ?_
      walk_at "w"
      refine ite_f rfl ?_
      walk_at "w"
      refine ite_f rfl ?_
      repeat ((fail_if_success (refine TestW.and ?_)); walk_at "v")
      refine TestW.conseq (Q' := fun b H' => b = false ∧ H = H') ?_ ?_
      · walk_at "w"
        refine SubW.tupL rfl rfl ?_
        walk_at "w"
        rcases hw with rfl | rfl
        · refine ite_f rfl ?_
          exact ⟨rfl, rfl⟩
        · refine ite_t rfl ?_
          walk_at "w"
          refine SubW.tupL rfl rfl ?_
          walk_at "w"
          refine ite_f rfl ?_
          exact ⟨rfl, rfl⟩
      rintro _ _ ⟨rfl, rfl⟩
      refine ite_f rfl ?_
      walk_at "w"
      refine SubW.tupL rfl rfl ?_
      walk_at "w"
      refine CallW.isi_list rfl ?_
      walk_at "w"
      refine ite_f rfl ?_
      walk_at "w"
      refine SubW.tupL rfl rfl ?_
      refine EvalW.list_fz ?_
      walk_at "w"
      refine ⟨by simp, ?_⟩
      refine CmpW.eqN (l := []) (l' := []) rfl lview_nv0 ?_
      walk_at "w"
      refine ite_t rfl ?_
      refine ite_t rfl ?_
      walk_at "w"
      exact RetQ.here hQ

variable {C : Cx}
set_option maxHeartbeats 4000000 in
theorem is_wait_ok (P : PCx C (KBx C)) (k : Nat) : FnOK C (k + 2) (.ref 136) S_is_wait := by
  refine FnOK.ofS (K := KBx C) [Str.ofString "thing", Str.ofString "many"] P rfl rfl (by kernel_rfl) ?_ (by kernel_rfl) (by kernel_rfl) ?_
  · intro vals h
    rcases vals with _ | ⟨a, _ | ⟨b, _ | ⟨c, t⟩⟩⟩ <;> simp at h
    rfl
  · rintro args Q R H ⟨w, m, rfl, hw, hQ⟩
    refine ⟨rfl, fun L P => ?_⟩
    cases w with
    | none =>
      walk_at "w"
      refine CmpW.isNone trivial ?_
      walk_at "w"
      refine ite_t rfl ?_
      walk_at "w"
      exact RetQ.here hQ
    | some w =>
      obtain ⟨b, l⟩ := w
      obtain ⟨hw1, hw2, hw3, hw4⟩ := hw
      simp only [wv]
      walk_at "w"
      refine CmpW.isNone trivial ?_
      walk_at "w"
      refine ite_f rfl ?_
      walk_at "w"
      refine CallW.isi_tuple rfl ?_
      walk_at "w"
      refine ite_f rfl ?_
      walk_at "w"
      refine CallW.lenT (by simp) ?_
      walk_at "w"
      refine ite_f rfl ?_
      walk_at "w"
      refine SubW.tupL rfl rfl ?_
      walk_at "w"
      refine CallW.isi_str rfl ?_
      walk_at "w"
      refine ite_f rfl ?_
      walk_at "w"
      refine ite_f rfl ?_
      repeat ((fail_if_success (refine TestW.and ?_)); walk_at "v")
      refine TestW.conseq (Q' := fun b H' => b = false ∧ H = H') ?_ ?_
      · walk_at "w"
        refine SubW.tupL rfl rfl ?_
        walk_at "w"
        cases b
        · refine ite_t rfl ?_
          walk_at "w"
          refine SubW.tupL rfl rfl ?_
          walk_at "w"
          refine ite_f rfl ?_
          exact ⟨rfl, rfl⟩
        · refine ite_f rfl ?_
          exact ⟨rfl, rfl⟩
      rintro _ _ ⟨rfl, rfl⟩
      refine ite_f rfl ?_
      walk_at "w"
      refine SubW.tupL rfl rfl ?_
      walk_at "w"
      refine CallW.isi_list rfl ?_
      walk_at "w"
      refine ite_f rfl ?_
      walk_at "w"
      refine SubW.tupL rfl rfl ?_
      refine EvalW.list_fz ?_
      walk_at "w"
      refine ⟨by simp, ?_⟩
      refine CmpW.eqN rfl lview_nv0 ?_
      walk_at "w"
      refine ite_f (by simpa using hw1) ?_
      walk_at "w"
      refine ite_f rfl ?_
      walk_at "w"
      refine EvalW.dictI fun a ha => ?_
      walk_at "w"
      refine ExecW.for_in false P.hd (fun e => by cases e) ?_
      refine IterE.list ?_
      walk_at "w"
      refine SubW.tupL rfl rfl ?_
      refine ⟨_, rfl, fun r l' H' => ∃ (i : Nat) (d : Int → Option V) (n : Nat), r = (l.map nv).drop i ∧ i ≤ l.length ∧ n ≤ i ∧ l' = [(Str.ofString "many", V.int m), (Str.ofString "met", V.ref a)] ∧ H' a = some (.dictI d n) ∧ (∀ x : Nat, x ∉ l.take i → d x = none) ∧ Hp.le H H', ?_, ?_, ?_, ?_⟩
      · exact ⟨_, ⟨0, _, 0, rfl, Nat.zero_le _, Nat.le_refl _, rfl, Hp.set_self .., fun _ _ => rfl, Hp.le_set ha⟩, rfl, rfl, trivial⟩
      · rintro r l' H' ⟨i, d, n, _⟩; rfl
      · rintro v r l' H' ⟨i, d, n, e, hi, hni, rfl, h1, h2, h3⟩
        obtain ⟨hv, hr, hlt⟩ := drop_cons e
        rw [List.length_map] at hlt
        rw [List.getElem?_map, List.getElem?_eq_getElem hlt] at hv
        cases hv
        have hx : l[i] < m := hw3 _ (List.getElem_mem hlt)
        generalize hxe : l[i] = x at hx
        have hnx : x ∉ l.take i := by
          intro hm
          obtain ⟨j, hj, e⟩ := List.mem_take_iff_getElem.mp hm
          have := (List.nodup_iff_pairwise_ne.mp hw2)
          rw [List.pairwise_iff_getElem] at this
          exact this j i (by omega) hlt (by omega) (by rw [e, hxe])
        refine AssignW.name (Or.inl rfl) ?_
        simp only [nv]
        walk_at "w"
        refine (is_place_ok P k).call ⟨_, _, rfl, ?_⟩
        walk_at "w"
        refine ite_f (by simp; omega) ?_
        walk_at "w"
        refine CmpW.inI h1 ?_
        walk_at "w"
        refine ite_f (by rw [h2 x hnx]; rfl) ?_
        walk_at "w"
        refine ite_f rfl ?_
        walk_at "w"
        refine SetW.dictI h1 (by omega) ?_
        walk_at "w"
        refine ⟨_, ⟨i + 1, _, n + 1, hr, hlt, by omega, rfl, Hp.set_self .., fun y hy => ?_, Hp.le_set' h3 ha⟩, rfl, rfl, trivial⟩
        rw [List.take_add_one, List.getElem?_eq_getElem hlt] at hy
        have hy1 : y ∉ l.take i := fun h => hy (List.mem_append.mpr (.inl h))
        have : y ≠ x := fun q => hy (List.mem_append.mpr (.inr (by rw [q, hxe]; exact List.mem_singleton.mpr rfl)))
        have : ¬ (y : Int) = (x : Int) := by omega
        simp only [this, if_false]
        exact h2 y hy1
      · rintro l' H' ⟨i, d, n, e, hi, hni, rfl, h1, h2, h3⟩
        walk_at "w"
        exact RetQ.fz (Fz.drop h3) hQ

set_option maxHeartbeats 4000000 in
theorem need_ok (P : PCx C (KBx C)) (k : Nat) : FnOK C (k + 3) (.ref 143) S_need := by
  refine FnOK.ofS (K := KBx C) [Str.ofString "waits"] P rfl rfl (by kernel_rfl) ?_ (by kernel_rfl) (by kernel_rfl) ?_
  · intro vals h
    rcases vals with _ | ⟨a, _ | ⟨b, t⟩⟩ <;> simp at h
    rfl
  · rintro args Q R H ⟨W, rfl, ⟨hW1, hW2, hW3⟩, hQ⟩
    refine ⟨rfl, fun L P => ?_⟩
    walk_at "w"
    refine CallW.isi_list rfl ?_
    walk_at "w"
    refine ite_f rfl ?_
    walk_at "w"
    refine CallW.len rfl (by simp; omega) ?_
    walk_at "w"
    refine ite_t (by simp; omega) ?_
    walk_at "w"
    refine EvalW.global (P.globInt (i := 40) (t := 347) (by kernel_rfl)) ?_ rfl
    walk_at "w"
    refine ite_f (by simp; omega) ?_
    walk_at "w"
    refine ite_f rfl ?_
    walk_at "w"
    refine ExecW.for_all true P.hd (fun _ => ⟨_, _, _, rfl⟩) [(Str.ofString "waits", V.lst (W.map wv))] ⟨rfl, trivial⟩ ?_
    refine IterE.enum (P.blt (by kernel_rfl) (by boot_fast)) rfl ?_
    walk_at "w"
    refine ⟨_, rfl, fun _ => True, rfl, ?_, ?_⟩
    · intro i v hv _
      rw [enumV, enumFrom_get, List.getElem?_map] at hv
      cases hw : W[i]? with
      | none => rw [hw] at hv; cases hv
      | some w =>
        rw [hw] at hv; cases hv
        have hmem : w ∈ W := List.mem_of_getElem? hw
        refine AssignW.tuple (.cons (Or.inl rfl) (.cons (Or.inl rfl) .nil)) rfl P.hd ?_
        walk_at "w"
        refine CallW.len rfl (by simp; omega) ?_
        walk_at "w"
        refine (is_wait_ok P k).call ⟨w, W.length, by simp, hW3 w hmem, ?_⟩
        walk_at "w"
        refine ite_f rfl ?_
        walk_at "w"
        exact ⟨trivial, rfl, rfl, trivial⟩
    · intro _
      walk_at "w"
      exact RetQ.here hQ

set_option maxHeartbeats 4000000 in
theorem goes_ok (P : PCx C (KBx C)) (k : Nat) : FnOK C (k + 1) (.ref 148) S_goes := by
  refine FnOK.ofS (K := KBx C) [Str.ofString "wait", Str.ofString "rounds"] P rfl rfl (by kernel_rfl) ?_ (by kernel_rfl) (by kernel_rfl) ?_
  · intro vals h
    rcases vals with _ | ⟨a, _ | ⟨b, _ | ⟨c, t⟩⟩⟩ <;> simp at h
    rfl
  · rintro args Q R H ⟨b, l, r, rv, rfl, hr, hl, hlt, hrl, hQ⟩
    refine ⟨rfl, fun L P => ?_⟩
    simp only [wv]
    refine ExecsW.cons ?_
    refine ExecW.assign_compP (fun v => match v with | .int i => some (.bool (r.getD i.toNat none).isSome) | _ => none) rfl rfl P.hd rfl ?_
    refine IterE.list ?_
    walk_at "w"
    refine SubW.tupL rfl rfl ?_
    refine ⟨_, rfl, by simp; omega, fun H' hle => rfl, ?_, ?_⟩
    · intro v hv H' hle
      obtain ⟨x, hx, rfl⟩ := List.mem_map.mp hv
      refine PureStep.map rfl fun L' => ?_
      simp only [nv]
      walk_at "w"
      refine SubW.list (lview_le hle hr) (by omega) (by have := hlt x hx; omega) (u := ov (r.getD x none)) ?_ ?_
      · have := hlt x hx
        simp [this]
      walk_at "w"
      refine CmpW.isNotNone (by cases r.getD x none <;> trivial) ?_
      refine ⟨rfl, ?_⟩
      simp only [Int.toNat_natCast]
      cases r.getD x none <;> rfl
    · have e : (l.map nv).filterMap (fun v => match v with | .int i => some (V.bool (r.getD i.toNat none).isSome) | _ => none) = (l.map fun x => (r.getD x none).isSome).map V.bool := by
        rw [List.filterMap_map, List.map_map]
        rw [← List.filterMap_eq_map]
        congr 1
      rw [e]
      walk_at "w"
      refine SubW.tupL rfl rfl ?_
      walk_at "w"
      cases b
      · refine ite_f rfl ?_
        walk_at "w"
        refine CallW.any P.hd rfl ?_
        walk_at "w"
        exact RetQ.here hQ
      · refine ite_t rfl ?_
        walk_at "w"
        refine CallW.all P.hd rfl ?_
        walk_at "w"
        exact RetQ.here hQ

set_option maxHeartbeats 4000000 in
theorem freed_ok (P : PCx C (KBx C)) (k : Nat) : FnOK C (k + 4) (.ref 155) S_freed := by
  refine FnOK.ofS (K := KBx C) [Str.ofString "waits"] P rfl rfl (by kernel_rfl) ?_ (by kernel_rfl) (by kernel_rfl) ?_
  · intro vals h
    rcases vals with _ | ⟨a, _ | ⟨b, t⟩⟩ <;> simp at h
    rfl
  · rintro args Q R H ⟨W, rfl, hW, hQ⟩
    have ⟨hW1, hW2, hW3⟩ := hW
    refine ⟨rfl, fun L P => ?_⟩
    walk_at "w"
    refine (need_ok P k).call ⟨W, rfl, hW, ?_⟩
    walk_at "w"
    refine CallW.len rfl (by simp; omega) ?_
    refine ⟨_, rfl, by simp only [List.length_map]; omega, by simp only [List.length_map]; omega, fun a ha => ?_⟩
    simp only [List.length_map, Int.toNat_natCast]
    walk_at "w"
    refine ExecW.for_in true P.hd (fun _ => ⟨_, _, _, rfl⟩) ?_
    refine IterE.enum (P.blt (by kernel_rfl) (by boot_fast)) rfl ?_
    walk_at "w"
    refine ⟨_, rfl, fun r l H' => ∃ i : Nat, r = (enumV (W.map wv)).drop i ∧ i ≤ W.length ∧ l = [(Str.ofString "waits", V.lst (W.map wv)), (Str.ofString "rounds", V.ref a)] ∧ H' a = some (.list ((partR W i).map ov)) ∧ Hp.le H H', ?_, ?_, ?_, ?_⟩
    · exact ⟨_, ⟨0, rfl, Nat.zero_le _, rfl, by rw [Hp.set_self, partR_zero], Hp.le_set ha⟩, rfl, rfl, trivial⟩
    · rintro r l H' ⟨i, _⟩; rfl
    · rintro v r l H' ⟨i, e, hi, rfl, h1, h2⟩
      obtain ⟨hv, hr, hlt⟩ := drop_cons e
      rw [enumV_length, List.length_map] at hlt
      obtain ⟨w, hw, hm, rfl⟩ := enum_get hv
      refine AssignW.tuple (.cons (Or.inl rfl) (.cons (Or.inl rfl) .nil)) rfl P.hd ?_
      walk_at "w"
      refine CmpW.isNone (by cases w <;> trivial) ?_
      walk_at "w"
      cases w with
      | none =>
        refine ite_t rfl ?_
        walk_at "w"
        refine SetW.list h1 (by omega) (by rw [List.length_map, partR_length]; omega) (by rw [List.length_map, partR_length]; omega) ?_
        walk_at "w"
        refine ⟨_, ⟨i + 1, hr, hlt, rfl, ?_, Hp.le_set' h2 ha⟩, rfl, rfl, trivial⟩
        rw [Hp.set_self, ← partR_set W i hw, List.map_set]
        rfl
      | some w =>
        refine ite_f rfl ?_
        walk_at "w"
        exact ⟨_, ⟨i + 1, hr, hlt, rfl, by rw [partR_skip W i w hw]; exact h1, h2⟩, rfl, rfl, trivial⟩
    · rintro l H' ⟨i, e, hi, rfl, h1, h2⟩
      have hle := drop_nil e
      rw [enumV_length, List.length_map] at hle
      have hi : i = W.length := by omega
      subst hi
      rw [partR_full] at h1
      walk_at "w"
      refine EvalW.list_fz ?_
      walk_at "w"
      refine ⟨by simp, ?_⟩
      walk_at "w"
      refine ExecW.while_in (fun n l H' => ∃ (t : Nat) (r : List (Option Nat)) (fv : V) (f : List Nat), l = [(Str.ofString "waits", V.lst (W.map wv)), (Str.ofString "rounds", V.ref a), (Str.ofString "turn", V.int t), (Str.ofString "fresh", fv)] ∧ r.length = W.length ∧ (∀ p : Nat, W[p]? = some none → r.getD p none ≠ none) ∧
        H' a = some (.list (r.map ov)) ∧ lview H' fv = some (f.map nv) ∧ Hp.le H H' ∧ ((n = 0 ∧ f = [] ∧ r = freedL W) ∨ ∃ m, n = m + 1 ∧ f ≠ [] ∧ run W n t r = freedL W ∧ cNone r ≤ m)) (W.length + 1) ?_ ?_
      · refine ⟨_, ⟨0, initR W, _, [0], rfl, by simp [initR], initR_some W, h1, rfl, h2, .inr ⟨_, rfl, by simp, rfl, ?_⟩⟩, rfl, rfl, rfl, rfl, trivial⟩
        have := cNone_length (initR W)
        simpa [initR] using this
      · rintro n l H₁ ⟨t, r, fv, f, rfl, hrl, hN, g1, g2, g3, g4⟩
        walk_at "w"
        refine EvalW.list_fz ?_
        walk_at "w"
        refine ⟨by simp, ?_⟩
        refine CmpW.neN g2 lview_nv0 ?_
        walk_at "w"
        rcases g4 with ⟨rfl, rfl, rfl⟩ | ⟨m, rfl, hf, hrun, hc⟩
        · refine ite_f rfl ?_
          walk_at "w"
          exact RetQ.fz (fz_own g1 g3 ha) hQ
        · refine ite_t (by simpa using hf) ?_
          walk_at "w"
          refine EvalW.list ?_
          walk_at "w"
          refine ⟨by simp, fun b hb => ?_⟩
          have hba : b ≠ a := fun q => by rw [q, g1] at hb; cases hb
          have hHb : H b = none := by
            cases hq : H b with
            | none => rfl
            | some o => rw [g3 _ _ hq] at hb; cases hb
          walk_at "w"
          refine ExecW.for_in true P.hd (fun _ => ⟨_, _, _, rfl⟩) ?_
          refine IterE.enum (P.blt (by kernel_rfl) (by boot_fast)) rfl ?_
          walk_at "w"
          refine ⟨_, rfl, fun q l H' => ∃ i : Nat, q = (enumV (W.map wv)).drop i ∧ i ≤ W.length ∧ l = [(Str.ofString "waits", V.lst (W.map wv)), (Str.ofString "rounds", V.ref a), (Str.ofString "turn", V.int ((t + 1 : Nat) : Int)), (Str.ofString "fresh", V.ref b)] ∧
            H' a = some (.list (r.map ov)) ∧ H' b = some (.list ((freshUp W r i).map nv)) ∧ Hp.le H H', ?_, ?_, ?_, ?_⟩
          · exact ⟨_, ⟨0, rfl, Nat.zero_le _, rfl, by rw [Hp.set_ne hba.symm]; exact g1, by rw [Hp.set_self]; rfl, Hp.le_set' g3 hHb⟩, rfl, rfl, rfl, rfl, trivial⟩
          · rintro r l H' ⟨i, _⟩; rfl
          · rintro v q l H' ⟨i, e, hi, rfl, p1, p2, p3⟩
            obtain ⟨hv, hr, hlt⟩ := drop_cons e
            rw [enumV_length, List.length_map] at hlt
            obtain ⟨w, hw, hm, rfl⟩ := enum_get hv
            refine AssignW.tuple (.cons (Or.inl rfl) (.cons (Or.inl rfl) .nil)) rfl P.hd ?_
            walk_at "w"
            refine SubW.list (lview_ref p1) (by omega) (by omega) (u := ov (r.getD i none)) ?_ ?_
            · have : i < r.length := by omega
              simp [this]
            walk_at "w"
            refine CmpW.isNone (by cases r.getD i none <;> trivial) ?_
            walk_at "w"
            have hsucc := freshUp_succ W r i
            have hWd : W.getD i none = w := by simp [List.getD_eq_getElem?_getD, hw]
            rw [hWd] at hsucc
            have stay : ((r.getD i none).isNone && goesW w r) = false → LoopQ (fun l H' => ∃ i : Nat, q = (enumV (W.map wv)).drop i ∧ i ≤ W.length ∧ l = [(Str.ofString "waits", V.lst (W.map wv)), (Str.ofString "rounds", V.ref a), (Str.ofString "turn", V.int ((t + 1 : Nat) : Int)), (Str.ofString "fresh", V.ref b)] ∧
                H' a = some (.list (r.map ov)) ∧ H' b = some (.list ((freshUp W r i).map nv)) ∧ Hp.le H H') (fun _ _ _ => True) .next (setAll (Rho.of [(Str.ofString "waits", V.lst (W.map wv)), (Str.ofString "rounds", V.ref a), (Str.ofString "turn", V.int ((t + 1 : Nat) : Int)), (Str.ofString "fresh", V.ref b)]) [Str.ofString "place", Str.ofString "wait"] [V.int ((i : Nat) : Int), wv w]) H' := fun hc => by
              rw [hc, if_neg (by decide)] at hsucc
              exact ⟨_, ⟨i + 1, hr, hlt, rfl, p1, by rw [hsucc]; exact p2, p3⟩, rfl, rfl, rfl, rfl, trivial⟩
            cases hri : r.getD i none with
            | some t' =>
              rw [hri] at stay
              refine ite_f rfl ?_
              refine ite_f rfl ?_
              walk_at "w"
              exact stay rfl
            | none =>
              rw [hri] at stay hsucc
              refine ite_t rfl ?_
              walk_at "w"
              cases w with
              | none => exact absurd hri (hN i hw)
              | some w =>
                obtain ⟨bb, ll⟩ := w
                obtain ⟨w1, w2, w3, w4⟩ := hW3 _ hm
                refine (goes_ok P _).call ⟨bb, ll, r, _, rfl, lview_ref p1, w4, by rw [hrl]; exact w3, by omega, ?_⟩
                walk_at "w"
                refine ite_w (fun h => ?_) fun h => ?_
                · walk_at "w"
                  refine ite_t rfl ?_
                  walk_at "w"
                  refine ⟨_, MethIs.append p2, Plainly.builtin _, ?_⟩
                  walk_at "w"
                  refine CallW.append p2 (by have := fresh_length W r i; simp; omega) ?_
                  walk_at "w"
                  rw [if_pos (by simpa [goesW] using h)] at hsucc
                  refine ⟨_, ⟨i + 1, hr, hlt, rfl, by rw [Hp.set_ne hba.symm]; exact p1, by rw [Hp.set_self, hsucc]; simp [nv], Hp.le_set' p3 hHb⟩, rfl, rfl, rfl, rfl, trivial⟩
                · refine ite_f rfl ?_
                  walk_at "w"
                  exact stay (by simpa [goesW] using h)
          · rintro l H' ⟨i, e, hi, rfl, p1, p2, p3⟩
            have hle := drop_nil e
            rw [enumV_length, List.length_map] at hle
            have hi : i = W.length := by omega
            subst hi
            generalize hfr : freshUp W r W.length = f' at p2
            walk_at "w"
            refine ExecW.for_in false P.hd (fun e => by cases e) ?_
            refine IterE.list ?_
            walk_at "w"
            refine ⟨_, lview_ref p2, fun q l H' => ∃ i : Nat, q = (f'.map nv).drop i ∧ i ≤ f'.length ∧ l = [(Str.ofString "waits", V.lst (W.map wv)), (Str.ofString "rounds", V.ref a), (Str.ofString "turn", V.int ((t + 1 : Nat) : Int)), (Str.ofString "fresh", V.ref b)] ∧
              H' a = some (.list ((setL (t + 1) r (f'.take i)).map ov)) ∧ H' b = some (.list (f'.map nv)) ∧ Hp.le H H', ?_, ?_, ?_, ?_⟩
            · exact ⟨_, ⟨0, rfl, Nat.zero_le _, rfl, p1, p2, p3⟩, rfl, rfl, rfl, rfl, trivial⟩
            · rintro r l H' ⟨i, _, _, _, _, p2, _⟩; exact lview_ref p2
            · rintro v q l H' ⟨i, e, hi, rfl, p1, p2, p3⟩
              obtain ⟨hv, hr, hlt⟩ := drop_cons e
              rw [List.length_map] at hlt
              rw [List.getElem?_map, List.getElem?_eq_getElem hlt] at hv
              cases hv
              have hmf : ∀ x ∈ f', x < W.length := fun x hx => by rw [← hfr] at hx; exact (mem_fresh.mp hx).1
              have hx : f'[i] < W.length := hmf _ (List.getElem_mem hlt)
              refine AssignW.name (Or.inl rfl) ?_
              simp only [nv]
              walk_at "w"
              refine SetW.list p1 (by omega) (by rw [List.length_map, setL_length]; omega) (by rw [List.length_map, setL_length]; omega) ?_
              walk_at "w"
              refine ⟨_, ⟨i + 1, hr, hlt, rfl, ?_, by rw [Hp.set_ne hba]; exact p2, Hp.le_set' p3 ha⟩, rfl, rfl, rfl, rfl, trivial⟩
              rw [Hp.set_self, List.take_add_one, List.getElem?_eq_getElem hlt, setL_append]
              simp only [Option.toList_some, setL, List.map_set, Int.toNat_natCast]
              rfl
            · rintro l H' ⟨i, e, hi, rfl, p1, p2, p3⟩
              have hle := drop_nil e
              rw [List.length_map] at hle
              rw [List.take_of_length_le hle] at p1
              walk_at "w"
              simp only [run] at hrun
              rw [hfr] at hrun
              by_cases hf' : f' = []
              · rw [if_pos hf'] at hrun
                subst hf'
                refine ⟨_, ⟨0, by omega, t + 1, r, V.ref b, [], rfl, hrl, hN, p1, lview_ref p2, p3, .inl ⟨rfl, rfl, hrun⟩⟩, rfl, rfl, rfl, rfl, trivial⟩
              · rw [if_neg hf'] at hrun
                have hcn := cNone_fresh (W := W) (t + 1) hrl (by rw [hfr]; exact hf')
                rw [hfr] at hcn
                obtain ⟨m', rfl⟩ : ∃ m', m = m' + 1 := ⟨m - 1, by omega⟩
                refine ⟨_, ⟨m' + 1, by omega, t + 1, _, V.ref b, f', rfl, by rw [setL_length]; exact hrl, fun p hp => setL_keep _ _ _ p (hN p hp), p1, lview_ref p2, p3, .inr ⟨m', rfl, hf', hrun, by omega⟩⟩, rfl, rfl, rfl, rfl, trivial⟩

set_option maxHeartbeats 4000000 in
theorem stuck_ok (P : PCx C (KBx C)) (k : Nat) : FnOK C (k + 5) (.ref 160) S_stuck := by
  refine FnOK.ofS (K := KBx C) [Str.ofString "waits"] P rfl rfl (by kernel_rfl) ?_ (by kernel_rfl) (by kernel_rfl) ?_
  · intro vals h
    rcases vals with _ | ⟨a, _ | ⟨b, t⟩⟩ <;> simp at h
    rfl
  · rintro args Q R H ⟨W, rfl, hW, hQ⟩
    have hfl := freedL_length W
    have ⟨hW1, hW2, hW3⟩ := hW
    refine ⟨rfl, fun L P => ?_⟩
    walk_at "w"
    refine (freed_ok P k).call ⟨W, rfl, hW, ?_⟩
    walk_at "w"
    refine EvalW.compP (gN fun n => if ((freedL W).getD n none).isNone = true then some (nv n) else none) rfl P.hd rfl ?_
    refine IterE.range (P.blt (by kernel_rfl) (by boot_fast)) rfl ?_
    walk_at "w"
    refine CallW.len rfl (by simp; omega) ?_
    refine ⟨_, rfl, by simp only [List.length_map]; omega, by simp only [List.length_map]; omega, ?_⟩
    simp only [List.length_map, Int.toNat_natCast, hfl]
    refine ⟨by rw [ints_length]; omega, fun _ _ => trivial, ?_, ?_⟩
    · intro v hv H' hle
      rw [rangeV_nv] at hv
      obtain ⟨x, hx, rfl⟩ := List.mem_map.mp hv
      have hx : x < W.length := by simpa using hx
      refine PureStep.filt rfl fun L' => ?_
      simp only [nv]
      walk_at "w"
      refine SubW.list rfl (by omega) (by omega) (u := ov ((freedL W).getD x none)) ?_ ?_
      · have : x < (freedL W).length := by omega
        simp [this]
      walk_at "w"
      refine CmpW.isNone (by cases (freedL W).getD x none <;> trivial) ?_
      walk_at "w"
      refine ⟨rfl, ?_⟩
      cases hr : (freedL W).getD x none with
      | none =>
        refine ite_t rfl ?_
        walk_at "w"
        refine ⟨rfl, ?_⟩
        rw [gN_nv, hr]; rfl
      | some t =>
        refine ite_f rfl ?_
        rw [gN_nv, hr]; rfl
    · walk_at "w"
      refine RetQ.here ?_
      rw [rangeV_nv, fm_gN, fm_filter]
      exact hQ

variable {C : Cx}
noncomputable def GoodV (m : Nat) (v : V) : Prop := ∃ w, v = wv w ∧ WOk m w
inductive NeedR (H : Hp) : V → Option V → Prop
  | good {l : List V} (h1 : 0 < l.length) (h2 : l.length ≤ 40) (h : ∀ v ∈ l, GoodV l.length v) : NeedR H (.lst l) none
  | kind {v : V} {T : String} (ht : tyOf H v = some T) (hT : isSub T "list" = false) : NeedR H v (some .none)
  | size {l : List V} (h : l.length = 0 ∨ 40 < l.length) (hz : l.length ≤ 1000) : NeedR H (.lst l) (some .none)
  | at {l : List V} {i : Nat} {v : V} (h2 : l.length ≤ 40) (hv : l[i]? = some v) (hg : ∀ j, j < i → ∀ u, l[j]? = some u → GoodV l.length u) (hb : BadV H l.length v) : NeedR H (.lst l) (some (.int i))
noncomputable def NeedO (H : Hp) (r : Option V) (Q R : V → Hp → Prop) : Prop := match r with
  | none => Q (.bool true) H
  | some u => XOut H (.bad u) R
noncomputable def S_needX : SpecT := fun args Q R H => ∃ (v : V) (r : Option V), args = [v] ∧ NeedR H v r ∧ NeedO H r Q R
set_option maxHeartbeats 4000000 in
theorem needX_ok {l : List Env} (P : PCx C (KBx C)) (hC : C.frs = some l) (k : Nat) : FnOK C (k + 5) (.ref 143) S_needX := by
  refine FnOK.ofSX (K := KBx C) [Str.ofString "waits"] P hC rfl rfl (by kernel_rfl) ?_ (by kernel_rfl) (by kernel_rfl) ?_
  · intro vals h
    rcases vals with _ | ⟨a, _ | ⟨b, t⟩⟩ <;> simp at h
    rfl
  · rintro args Q R H ⟨v, r, rfl, hr, hQ⟩
    refine ⟨rfl, fun L P hfr hL => ?_⟩
    cases hr with
    | good h1 h2 h =>
      rename_i W
      have hQ : Q (.bool true) H := hQ
      walk_at "w"
      refine CallW.isi_list rfl ?_
      walk_at "w"
      refine ite_f rfl ?_
      walk_at "w"
      refine CallW.len rfl (by omega) ?_
      walk_at "w"
      refine ite_t (by simp; omega) ?_
      walk_at "w"
      refine EvalW.global (P.globInt (i := 40) (t := 347) (by kernel_rfl)) ?_ rfl
      walk_at "w"
      refine ite_f (by simp; omega) ?_
      walk_at "w"
      refine ite_f rfl ?_
      walk_at "w"
      refine ExecW.for_all true P.hd (fun _ => ⟨_, _, _, rfl⟩) [(Str.ofString "waits", V.lst W)] ⟨rfl, trivial⟩ ?_
      refine IterE.enum (P.blt (by kernel_rfl) (by boot_fast)) rfl ?_
      walk_at "w"
      refine ⟨_, rfl, fun _ => True, rfl, ?_, ?_⟩
      · intro i v hv _
        rw [enumV, enumFrom_get] at hv
        cases hw : W[i]? with
        | none => rw [hw] at hv; cases hv
        | some w =>
          rw [hw] at hv; cases hv
          have hmem : w ∈ W := List.mem_of_getElem? hw
          obtain ⟨w, rfl, hwo⟩ := h w hmem
          refine AssignW.tuple (.cons (Or.inl rfl) (.cons (Or.inl rfl) .nil)) rfl P.hd ?_
          walk_at "w"
          refine CallW.len rfl (by omega) ?_
          walk_at "w"
          refine (is_wait_ok P _).call ⟨w, W.length, rfl, hwo, ?_⟩
          walk_at "w"
          refine ite_f rfl ?_
          walk_at "w"
          exact ⟨trivial, rfl, rfl, trivial⟩
      · intro _
        walk_at "w"
        exact RetQ.here hQ
    | kind ht hT =>
      have hQ : XOut H (.bad .none) R := hQ
      walk_at "w"
      refine CallW.isi_list ht ?_
      rw [hT]
      walk_at "w"
      refine ite_t rfl ?_
      refine ite_t rfl ?_
      walk_at "w"
      refine ExecW.raise44 P rfl rfl rfl ?_
      walk_at "w"
      exact fun e H2 hx => hQ.fresh hx
    | size h hz =>
      rename_i W
      have hQ : XOut H (.bad .none) R := hQ
      walk_at "w"
      refine CallW.isi_list rfl ?_
      walk_at "w"
      refine ite_f rfl ?_
      walk_at "w"
      refine CallW.len rfl (by omega) ?_
      walk_at "w"
      by_cases h0 : W.length = 0
      · refine ite_f (by simp; omega) ?_
        walk_at "w"
        refine ite_t rfl ?_
        refine ite_t rfl ?_
        walk_at "w"
        refine ExecW.raise44 P rfl rfl rfl ?_
        walk_at "w"
        exact fun e H2 hx => hQ.fresh hx
      · refine ite_t (by simp; omega) ?_
        walk_at "w"
        refine EvalW.global (P.globInt (i := 40) (t := 347) (by kernel_rfl)) ?_ rfl
        walk_at "w"
        refine ite_t (by simp; omega) ?_
        refine ite_t rfl ?_
        walk_at "w"
        refine ExecW.raise44 P rfl rfl rfl ?_
        walk_at "w"
        exact fun e H2 hx => hQ.fresh hx
    | «at» h2 hv hg hb =>
      rename_i W i0 v0
      have hQ : XOut H (.bad (.int i0)) R := hQ
      have hi0 : i0 < W.length := (List.getElem?_eq_some_iff.mp hv).1
      walk_at "w"
      refine CallW.isi_list rfl ?_
      walk_at "w"
      refine ite_f rfl ?_
      walk_at "w"
      refine CallW.len rfl (by omega) ?_
      walk_at "w"
      refine ite_t (by simp; omega) ?_
      walk_at "w"
      refine EvalW.global (P.globInt (i := 40) (t := 347) (by kernel_rfl)) ?_ rfl
      walk_at "w"
      refine ite_f (by simp; omega) ?_
      walk_at "w"
      refine ite_f rfl ?_
      walk_at "w"
      refine ExecW.for_inX true P.hd (fun _ => ⟨_, _, _, rfl⟩) hfr hL ?_
      refine IterE.enum (P.blt (by kernel_rfl) (by boot_fast)) rfl ?_
      walk_at "w"
      refine ⟨_, rfl, fun r l' H' => ∃ i : Nat, r = (enumV W).drop i ∧ i ≤ i0 ∧ l' = [(Str.ofString "waits", V.lst W)] ∧ H' = H, ?_, ?_, ?_, ?_⟩
      · exact ⟨_, ⟨0, rfl, Nat.zero_le _, rfl, rfl⟩, rfl, trivial⟩
      · intros; rfl
      · rintro v r l' H' ⟨i, e, hi, rfl, rfl⟩
        obtain ⟨hv', hr, hlt⟩ := drop_cons e
        rw [enumV_length] at hlt
        rw [enumV, enumFrom_get] at hv'
        cases hw : W[i]? with
        | none => rw [hw] at hv'; cases hv'
        | some w =>
          rw [hw] at hv'; cases hv'
          refine AssignW.tuple (.cons (Or.inl rfl) (.cons (Or.inl rfl) .nil)) rfl P.hd ?_
          walk_at "w"
          refine CallW.len rfl (by omega) ?_
          walk_at "w"
          by_cases hii : i = i0
          · subst hii
            rw [hv] at hw
            cases hw
            refine (badwait_ok P _).call ⟨_, _, rfl, hb, ?_⟩
            walk_at "w"
            refine ite_t rfl ?_
            walk_at "w"
            refine ExecW.raise44 P rfl rfl rfl ?_
            walk_at "w"
            rw [← Nat.zero_add i] at hQ
            exact fun e H2 hx => hQ.loop hx
          · obtain ⟨w, rfl, hwo⟩ := hg i (by omega) w hw
            refine (is_wait_ok P _).call ⟨w, W.length, rfl, hwo, ?_⟩
            walk_at "w"
            refine ite_f rfl ?_
            walk_at "w"
            exact ⟨_, ⟨i + 1, hr, by omega, rfl, rfl⟩, rfl, trivial⟩
      · rintro l' H' ⟨i, e, hi, rfl, rfl⟩
        have hle := drop_nil e
        rw [enumV_length] at hle
        omega
section
/- plain data -/
structure Dt (n : Nat) (v : V) : Prop where
  pure : v.pure = true
  lay : v.dat.canLay0 = true
  dep : v.dat.depth ≤ n
theorem Dt.none {n} : Dt n .none := ⟨rfl, rfl, Nat.zero_le _⟩
theorem Dt.int {n} (i : Int) : Dt n (.int i) := ⟨rfl, rfl, Nat.zero_le _⟩
theorem Dt.bool {n} (b : Bool) : Dt n (.bool b) := ⟨rfl, rfl, Nat.zero_le _⟩
theorem Dt.str {n} {s : Str} (h : (PyData.str s).canLay0 = true) : Dt n (.str s) := ⟨rfl, h, Nat.zero_le _⟩
theorem dtL {n : Nat} : ∀ {l : List V}, (∀ x ∈ l, Dt n x) → pureL l = true ∧ PyData.canLayAll0 (datL l) = true ∧ PyData.depthAll (datL l) ≤ n
  | [], _ => ⟨rfl, rfl, Nat.zero_le _⟩
  | v :: l, h => by
    have h1 := h v (.head _)
    obtain ⟨h2, h3, h4⟩ := dtL (l := l) fun x hx => h x (.tail _ hx)
    simp only [pureL, datL, PyData.canLayAll0, PyData.depthAll, h1.pure, h1.lay, h2, h3]
    exact ⟨rfl, rfl, Nat.max_le.mpr ⟨h1.dep, h4⟩⟩
theorem Dt.tup {n : Nat} {l : List V} (h : ∀ x ∈ l, Dt n x) : Dt (n + 1) (.tup l) := by
  obtain ⟨h1, h2, h3⟩ := dtL h
  exact ⟨h1, by simpa only [V.dat, PyData.canLay0] using h2, by simp only [V.dat, PyData.depth]; omega⟩
theorem Dt.lst {n : Nat} {l : List V} (h : ∀ x ∈ l, Dt n x) : Dt (n + 1) (.lst l) := by
  obtain ⟨h1, h2, h3⟩ := dtL h
  exact ⟨h1, by simpa only [V.dat, PyData.canLay0] using h2, by simp only [V.dat, PyData.depth]; omega⟩
theorem Dt.ok {n : Nat} {v : V} (h : Dt n v) (hn : n ≤ 64) : okD v.dat = true := okD_of h.lay (Nat.le_trans h.dep hn)
theorem Dt.see {n : Nat} {v : V} (h : Dt n v) (H : Hp) : Mine.see H v = v := by
  cases v with
  | ref a => cases h.pure
  | _ => rfl
section
variable {C : Cx} {k : Nat} {Q R : V → Hp → Prop} {H : Hp}
theorem CmpW.neSame {n : Nat} {v : V} (h : Dt n v) (hn : n ≤ 64) (hq : Q (.bool false) H) : CmpW C k .NotEq v v Q R H := by
  refine CmpW.ne ?_ ?_ ?_ ?_ ?_ <;> simp only [h.see]
  · exact h.pure
  · exact h.pure
  · exact h.ok hn
  · exact h.ok hn
  · rw [eqv_refl _ h.lay]; exact hq
theorem CmpW.eqD {n : Nat} {v w : V} (h : Dt n v) (h' : Dt n w) (hn : n ≤ 64) (hq : Q (.bool (PyData.eqv v.dat w.dat)) H) : CmpW C k .Eq v w Q R H := by
  refine CmpW.eq ?_ ?_ ?_ ?_ ?_ <;> simp only [h.see, h'.see]
  · exact h.pure
  · exact h'.pure
  · exact h.ok hn
  · exact h'.ok hn
  · exact hq
end

/- what _law_odd makes -/
noncomputable def pick (l : List V) (i : Int) : V := l.getD i.toNat .none
theorem pick_get {l : List V} {i : Int} (h0 : 0 ≤ i) (h : i < l.length) : l[i.toNat]? = some (pick l i) := by
  have : i.toNat < l.length := by omega
  simp [pick, this]
theorem pick_mem {l : List V} {i : Int} (h0 : 0 ≤ i) (h : i < l.length) : pick l i ∈ l := List.mem_of_getElem? (pick_get h0 h)
noncomputable def insV (l : List V) (j : Nat) (v : V) : List V := l.take j ++ v :: l.drop j
noncomputable def sAll : V := .str (Str.ofString "all")
noncomputable def natV (l : List Nat) : List V := l.map nv
theorem len_ins (l : List V) (j : Nat) (v : V) : (insV l j v).length = l.length + 1 := by
  unfold insV
  rw [List.length_append, List.length_cons, List.length_take, List.length_drop]; omega
theorem natV_length (l : List Nat) : (natV l).length = l.length := by simp [natV]

section
variable {H : Hp} {k m : Int} {s : Nat} {l : List Nat}
theorem pair_dt {n : Nat} {a b : V} (ha : Dt n a) (hb : Dt n b) : Dt (n + 1) (.tup [a, b]) := Dt.tup fun y hy => by
  simp only [List.mem_cons, List.not_mem_nil, or_false] at hy
  rcases hy with rfl | rfl
  · exact ha
  · exact hb
end
end
variable {C : Cx}
theorem handC (C : Cx) : HandCls (KBx C) 118 := ⟨⟨by kernel_rfl, by kernel_rfl, by kernel_rfl, by kernel_rfl, by kernel_rfl⟩, by kernel_rfl⟩

set_option maxHeartbeats 4000000 in
theorem send_ok (P : PCx C (KBx C)) (k : Nat) : FnOK C (k + 1) (.ref 89) (S_send 118) := by
  have hc := handC C
  refine FnOK.ofS (K := KBx C) [Str.ofString "self", Str.ofString "word", Str.ofString "hands"] P rfl rfl (by kernel_rfl) ?_ (by kernel_rfl) (by kernel_rfl) ?_
  · intro vals h
    rcases vals with _ | ⟨a, _ | ⟨b, _ | ⟨c, _ | ⟨d, t⟩⟩⟩⟩ <;> simp at h
    rfl
  · rintro args Q R H ⟨A, m, w, l, hv, rfl, Rp, hl, hn, hQ⟩
    refine ⟨rfl, fun L P => ?_⟩
    walk_at "w"
    refine CallW.len hl (by simp; omega) ?_
    walk_at "w"
    refine Rp.putOwed P hc _ fun H1 Rp1 e1 => ?_
    have hl1 : lview H1 hv = some (l.map nv) := lview_keep hl e1 (fun l q => by rw [Rp.d] at q; cases q)
    have hn1 : ∀ x, H1 x = none → H x = none := fun x hx => by rw [← e1 x (Hp.ne Rp1.d hx).symm]; exact hx
    have f1 : HFrame H H1 A := (HFrame.refl H A).but e1 (.inl rfl)
    walk_at "w"
    refine EvalW.compO (gN fun n => some (lv (w, m.num, n))) rfl P.hd rfl ?_
    refine IterE.list ?_
    walk_at "w"
    refine ⟨_, hl1, by simp; omega, fun _ hle => lcond_le hl1 hle, ?_, fun x hx => ?_⟩
    · intro v hv H' hle
      obtain ⟨y, hy, rfl⟩ := List.mem_map.mp hv
      have Rp2 := Rp1.le hle
      refine PureStep.map rfl fun L' => ?_
      simp only [nv]
      walk_at "w"
      exact ⟨⟨rfl, by rw [gN_nv]; rfl⟩, by simp⟩
    rw [fm_gN, fm_map]
    walk_at "w"
    refine RetQ.here (hQ _ x ?_ ?_ (hn1 x hx) (f1.set (hn1 x hx)))
    · have := Rp1.fresh (o := .list (l.map fun n => lv (w, m.num, n))) hx
      simpa [sendM] using this
    · rw [Hp.set_self]; simp [sendM, Function.comp_def]

set_option maxHeartbeats 4000000 in
theorem begin_ok (P : PCx C (KBx C)) (k : Nat) : FnOK C (k + 2) (.ref 96) (S_begin 118) := by
  have hc := handC C
  refine FnOK.ofS (K := KBx C) [Str.ofString "self"] P rfl rfl (by kernel_rfl) ?_ (by kernel_rfl) (by kernel_rfl) ?_
  · intro vals h
    rcases vals with _ | ⟨a, _ | ⟨b, t⟩⟩ <;> simp at h
    rfl
  · rintro args Q R H ⟨A, m, rfl, Rp, hn, hQ⟩
    refine ⟨rfl, fun L P => ?_⟩
    walk_at "w"
    refine ite_w (fun h => ?_) fun h => ?_
    · walk_at "w"
      refine EvalW.list ?_
      walk_at "w"
      refine ⟨by simp, fun x hx => ?_⟩
      walk_at "w"
      refine RetQ.here (hQ _ x ?_ ?_ hx ((HFrame.refl H A).set hx))
      · have := Rp.fresh (o := .list []) hx
        simpa [beginM, h] using this
      · rw [Hp.set_self]; simp [beginM, h]
    · walk_at "w"
      refine Rp.putHas P hc true fun H1 Rp1 e1 => ?_
      have hn1 : ∀ x, H1 x = none → H x = none := fun x hx => by rw [← e1 x (Hp.ne Rp1.d hx).symm]; exact hx
      have f1 : HFrame H H1 A := (HFrame.refl H A).but e1 (.inl rfl)
      walk_at "w"
      refine ⟨_, Rp1.meth P hc (f := 89) (by with_unfolding_all rfl) (by kernel_rfl) (by kernel_rfl), Plainly.ofS P.X rfl, ?_⟩
      walk_at "w"
      refine (send_ok P _).call ⟨A, _, .ask, m.others, _, rfl, Rp1, rfl, hn, ?_⟩
      intro H' x r2 e2 n2 f2
      walk_at "w"
      refine RetQ.here (hQ _ x ?_ ?_ (hn1 x n2) (f1.trans f2))
      · simpa [beginM, h, HandM.others] using r2
      · simpa [beginM, h, HandM.others] using e2

set_option maxHeartbeats 4000000 in
theorem asked_ok (P : PCx C (KBx C)) (k : Nat) : FnOK C (k + 3) (.ref 110) (S_asked 118) := by
  have hc := handC C
  refine FnOK.ofS (K := KBx C) [Str.ofString "self", Str.ofString "sender"] P rfl rfl (by kernel_rfl) ?_ (by kernel_rfl) (by kernel_rfl) ?_
  · intro vals h
    rcases vals with _ | ⟨a, _ | ⟨b, _ | ⟨c, t⟩⟩⟩ <;> simp at h
    rfl
  · rintro args Q R H ⟨A, m, s, rfl, Rp, ⟨ho1, ho2, ho3⟩, hQ⟩
    refine ⟨rfl, fun L P => ?_⟩
    simp only [nv]
    walk_at "w"
    refine ite_w (fun h => ?_) fun h => ?_
    · walk_at "w"
      refine ⟨_, Rp.meth P hc (f := 89) (by with_unfolding_all rfl) (by kernel_rfl) (by kernel_rfl), Plainly.ofS P.X rfl, ?_⟩
      walk_at "w"
      refine EvalW.list_fz ?_
      walk_at "w"
      refine ⟨by simp, ?_⟩
      walk_at "w"
      refine (send_ok P _).call ⟨A, _, .freed, [s], _, rfl, Rp, rfl, by simp, ?_⟩
      intro H' x r2 e2 n2 f2
      walk_at "w"
      refine RetQ.here (hQ _ x ?_ ?_ n2 f2)
      · simpa [askedM, h] using r2
      · simpa [askedM, h] using e2
    · walk_at "w"
      refine ⟨_, MethIs.append Rp.a, Plainly.builtin _, ?_⟩
      walk_at "w"
      refine CallW.append Rp.a (by simp; omega) ?_
      have Rp1 := Rp.setAskers s
      have f1 : HFrame H (H.set A.a (.list (m.askers.map nv ++ [V.int ((s : Nat) : Int)]))) A := (HFrame.refl H A).but (fun b hb => Hp.set_ne hb) (.inr (.inl rfl))
      generalize H.set A.a (.list (m.askers.map nv ++ [V.int ((s : Nat) : Int)])) = H1 at Rp1 f1
      have hn1 : ∀ x, H1 x = none → H x = none := fun x hx => f1.none Rp Rp1 hx
      walk_at "w"
      refine ite_w (fun h2 => ?_) fun h2 => ?_
      · walk_at "w"
        refine EvalW.list ?_
        walk_at "w"
        refine ⟨by simp, fun x hx => ?_⟩
        walk_at "w"
        have e9 : askedM m s = ({ m with askers := m.askers ++ [s] }, []) := by unfold askedM; rw [if_neg (by rw [h]; decide), if_pos h2]
        refine RetQ.here (hQ _ x ?_ ?_ (hn1 x hx) (f1.set (hn1 x hx)))
        · rw [e9]; exact Rp1.fresh (o := .list []) hx
        · rw [e9, Hp.set_self]; rfl
      · walk_at "w"
        refine ⟨_, Rp1.meth P hc (f := 96) (by with_unfolding_all rfl) (by kernel_rfl) (by kernel_rfl), Plainly.ofS P.X rfl, ?_⟩
        walk_at "w"
        refine (begin_ok P _).call ⟨A, _, rfl, Rp1, ho3, ?_⟩
        intro H' x r2 e2 n2 f2
        walk_at "w"
        have h2' : m.has = false := h2
        have e9 : askedM m s = beginM { m with askers := m.askers ++ [s] } := by unfold askedM; rw [if_neg (by rw [h]; decide), if_neg (by rw [h2']; decide)]
        refine RetQ.here (hQ _ x ?_ ?_ (hn1 x n2) (f1.trans f2))
        · rw [e9]; exact r2
        · rw [e9]; exact e2

set_option maxHeartbeats 4000000 in
theorem told_ok (P : PCx C (KBx C)) (k : Nat) : FnOK C (k + 2) (.ref 115) (S_told 118) := by
  have hc := handC C
  refine FnOK.ofS (K := KBx C) [Str.ofString "self", Str.ofString "sender"] P rfl rfl (by kernel_rfl) ?_ (by kernel_rfl) (by kernel_rfl) ?_
  · intro vals h
    rcases vals with _ | ⟨a, _ | ⟨b, _ | ⟨c, t⟩⟩⟩ <;> simp at h
    rfl
  · rintro args Q R H ⟨A, m, s, rfl, Rp, ⟨ho1, ho2, ho3⟩, hQ⟩
    refine ⟨rfl, fun L P => ?_⟩
    simp only [nv]
    walk_at "w"
    refine SetW.dictI Rp.h (by omega) ?_
    have Rp1 := Rp.setHeard s m.heard.length rfl
    have f1 : HFrame H (H.set A.h (.dictI (fun x => if x = ((s : Nat) : Int) then some (V.bool true) else heardM m.heard x) (m.heard.length + 1))) A := (HFrame.refl H A).but (fun b hb => Hp.set_ne hb) (.inr (.inr rfl))
    generalize H.set A.h (.dictI (fun x => if x = ((s : Nat) : Int) then some (V.bool true) else heardM m.heard x) (m.heard.length + 1)) = H1 at Rp1 f1
    have hn1 : ∀ x, H1 x = none → H x = none := fun x hx => f1.none Rp Rp1 hx
    walk_at "w"
    refine ite_w (fun h => ?_) fun h => ?_
    · walk_at "w"
      refine EvalW.list ?_
      walk_at "w"
      refine ⟨by simp, fun x hx => ?_⟩
      walk_at "w"
      refine RetQ.here (hQ _ x ?_ ?_ (hn1 x hx) (f1.set (hn1 x hx)))
      · have := Rp1.fresh (o := .list []) hx
        have h' : m.freed = true := h
        simpa [toldM, h'] using this
      · have h' : m.freed = true := h
        rw [Hp.set_self]; simp [toldM, h']
    · have h' : m.freed = false := h
      refine ExecsW.nil (Cont.next (ExecsW.seq (fun l H' => H' = H1 ∧ (m.isAll && !(m.others.all fun o => decide (o ∈ s :: m.heard))) = false ∧ l = [(Str.ofString "self", V.ref A.i), (Str.ofString "sender", V.int ((s : Nat) : Int))]) ?_ ?_))
      · walk_at "w"
        rw [show HandM.word { m with heard := s :: m.heard } = m.word from rfl, word_all]
        refine ite_w (fun h1 => ?_) fun h1 => ?_
        · walk_at "w"
          refine EvalW.compP (gN fun n => some (.bool (decide (n ∈ s :: m.heard)))) rfl P.hd rfl ?_
          refine IterE.list ?_
          walk_at "w"
          refine ⟨_, rfl, by simpa [HandM.others] using Nat.le_trans ho3 (by decide), fun _ _ => rfl, ?_, ?_⟩
          · intro v hv H' hle
            obtain ⟨y, hy, rfl⟩ := List.mem_map.mp hv
            have Rp2 := Rp1.le hle
            refine PureStep.map rfl fun L' => ?_
            simp only [nv]
            walk_at "w"
            refine CmpW.inI Rp2.h ?_
            rw [heardM_some]
            exact ⟨rfl, by rw [gN_nv]⟩
          rw [fm_gN, fm_map]
          walk_at "w"
          refine CallW.all P.hd (bs := m.others.map fun o => decide (o ∈ s :: m.heard)) (by rw [List.map_map]; rfl) ?_
          walk_at "w"
          have e3 : ((m.others.map fun o => decide (o ∈ s :: m.heard)).all id) = m.others.all fun o => decide (o ∈ s :: m.heard) := by rw [List.all_map]; rfl
          rw [e3]
          refine ite_w (fun h2 => ?_) fun h2 => ?_
          · walk_at "w"
            refine ite_t rfl ?_
            walk_at "w"
            refine EvalW.list ?_
            walk_at "w"
            refine ⟨by simp, fun x hx => ?_⟩
            have e4 : (m.isAll && !(m.others.all fun o => decide (o ∈ s :: m.heard))) = true := by rw [h1, h2]; rfl
            refine RetQ.here (ρ := fun _ => Option.none) (hQ _ x ?_ ?_ (hn1 x hx) (f1.set (hn1 x hx)))
            · rw [show toldM m s = ({ m with heard := s :: m.heard }, []) by unfold toldM; rw [if_neg (by rw [h']; decide), if_pos e4]]
              exact Rp1.fresh (o := .list []) hx
            · rw [show toldM m s = ({ m with heard := s :: m.heard }, []) by unfold toldM; rw [if_neg (by rw [h']; decide), if_pos e4], Hp.set_self]; rfl
          · refine ite_f rfl ?_
            walk_at "w"
            exact ⟨_, ⟨rfl, by rw [h1, h2]; rfl, rfl⟩, rfl, rfl, trivial⟩
        · refine ite_f rfl ?_
          walk_at "w"
          exact ⟨_, ⟨rfl, by rw [h1]; rfl, rfl⟩, rfl, rfl, trivial⟩
      rintro l H0 ⟨rfl, e4, rfl⟩
      walk_at "w"
      refine Rp1.putFreed P hc true fun H2 Rp2 e2 => ?_
      have f2 := f1.but e2 (.inl rfl)
      have hn2 : ∀ x, H2 x = none → H x = none := fun x hx => f2.none Rp Rp2 hx
      walk_at "w"
      refine ⟨_, Rp2.meth P hc (f := 89) (by with_unfolding_all rfl) (by kernel_rfl) (by kernel_rfl), Plainly.ofS P.X rfl, ?_⟩
      walk_at "w"
      refine (send_ok P _).call ⟨A, _, .freed, m.askers, _, rfl, Rp2, lview_ref Rp2.a, ho1, ?_⟩
      intro H' x r2 e5 n2 f3
      walk_at "w"
      refine RetQ.here (hQ _ x ?_ ?_ (hn2 x n2) (f2.trans f3))
      · rw [show toldM m s = sendM { m with heard := s :: m.heard, freed := true } .freed m.askers by unfold toldM; rw [if_neg (by rw [h']; decide), if_neg (by rw [e4]; decide)]]; exact r2
      · rw [show toldM m s = sendM { m with heard := s :: m.heard, freed := true } .freed m.askers by unfold toldM; rw [if_neg (by rw [h']; decide), if_neg (by rw [e4]; decide)]]; exact e5

set_option maxHeartbeats 8000000 in
theorem come_ok (P : PCx C (KBx C)) (k : Nat) : FnOK C (k + 4) (.ref 103) (S_come 118) := by
  have hc := handC C
  refine FnOK.ofS (K := KBx C) [Str.ofString "self", Str.ofString "letter"] P rfl rfl (by kernel_rfl) ?_ (by kernel_rfl) (by kernel_rfl) ?_
  · intro vals h
    rcases vals with _ | ⟨a, _ | ⟨b, _ | ⟨c, t⟩⟩⟩ <;> simp at h
    rfl
  · rintro args Q R H ⟨A, m, w, s, r, rfl, Rp, ⟨ho1, ho2, ho3⟩, hQ⟩
    refine ⟨rfl, fun L P => ?_⟩
    simp only [lv, nv]
    walk_at "w"
    refine ExecW.assign_tuple (xs := [Str.ofString "word", Str.ofString "sender", Str.ofString "receiver"]) (.cons (.inl rfl) (.cons (.inl rfl) (.cons (.inl rfl) .nil))) P.hd ?_ (by with_unfolding_all rfl) (by with_unfolding_all rfl)
    walk_at "w"
    refine ⟨_, rfl, rfl, ?_⟩
    walk_at "w"
    refine EvalW.list ?_
    walk_at "w"
    refine ⟨by simp, fun x hx => ?_⟩
    have Rp1 := Rp.fresh (o := .list []) hx
    have f1 : HFrame H (H.set x (.list [])) A := (HFrame.refl H A).set hx
    have x1 : (H.set x (.list [])) x = some (.list (([] : List Lt).map lv)) := Hp.set_self ..
    have nx : x ≠ A.a := (Hp.ne Rp.a hx).symm
    generalize H.set x (.list []) = H1 at Rp1 f1 x1
    refine Cont.next (ExecsW.seq (fun l H' => HandRep 118 H' A (wakeM m w s).1 ∧ H' x = some (.list ((wakeM m w s).2.map lv)) ∧ HFrame H H' A ∧ l = [(Str.ofString "self", V.ref A.i), (Str.ofString "word", V.str w.str), (Str.ofString "sender", V.int ((s : Nat) : Int)), (Str.ofString "found", V.ref x)]) ?_ ?_)
    · walk_at "w"
      rw [str_back]
      refine ite_w (fun h => ?_) fun h => ?_
      · have hw : w = .back := by simpa using h
        walk_at "w"
        refine Rp1.putOwed P hc _ fun H2 Rp2 e2 => ?_
        walk_at "w"
        refine ⟨_, ⟨?_, ?_, f1.but e2 (.inl rfl), rfl⟩, rfl, rfl, rfl, rfl, trivial⟩
        · rw [show wakeM m w s = ({ m with owed := m.owed - 1 }, []) by unfold wakeM; rw [if_pos hw]]; exact Rp2
        · rw [show wakeM m w s = ({ m with owed := m.owed - 1 }, []) by unfold wakeM; rw [if_pos hw]]; exact Rp1.keep x1 e2
      · have hw : w ≠ .back := by simpa using h
        refine ExecsW.cons ?_
        have tl : ∀ (QB : Bool → Hp → Prop), QB (m.asker || m.waker.isSome) H1 → (if m.asker = true then QB true H1 else if (!(ov m.waker).isNone) = true then QB true H1 else QB false H1) := fun QB h => by
          cases ha : m.asker <;> cases hk : m.waker <;> simp [ha, hk, ov, V.isNone] at h ⊢ <;> exact h
        walk_at "w"
        refine ite_w (fun ha => ?_) fun ha => ?_
        · refine ite_t rfl ?_
          walk_at "w"
          refine ⟨_, MethIs.append x1, Plainly.builtin _, ?_⟩
          walk_at "w"
          refine ⟨?_, by simp⟩
          refine ArgsW.nil ?_
          refine CallW.append x1 (by simp) ?_
          have e3 : wakeM m w s = (m, [(.back, m.num, s)]) := by unfold wakeM; rw [if_neg hw, if_pos (by rw [ha]; rfl)]
          walk_at "w"
          refine ⟨_, ⟨?_, ?_, f1.set hx, rfl⟩, rfl, rfl, rfl, rfl, trivial⟩
          · rw [e3]; exact Rp1.list x1 nx
          · rw [e3, Hp.set_self]; rfl
        · walk_at "w"
          refine CmpW.isNotNone (ov_notCon _) ?_
          walk_at "w"
          rw [ov_isNone]
          refine ite_w (fun hb => ?_) fun hb => ?_
          · refine ite_t rfl ?_
            walk_at "w"
            refine ⟨_, MethIs.append x1, Plainly.builtin _, ?_⟩
            walk_at "w"
            refine ⟨?_, by simp⟩
            refine ArgsW.nil ?_
            refine CallW.append x1 (by simp) ?_
            have e3 : wakeM m w s = (m, [(.back, m.num, s)]) := by
              unfold wakeM; rw [if_neg hw, if_pos]
              cases hk : m.waker with
              | none => rw [hk] at hb; cases hb
              | some u => simp
            walk_at "w"
            refine ⟨_, ⟨?_, ?_, f1.set hx, rfl⟩, rfl, rfl, rfl, rfl, trivial⟩
            · rw [e3]; exact Rp1.list x1 nx
            · rw [e3, Hp.set_self]; rfl
          · walk_at "w"
            refine ite_f rfl ?_
            walk_at "w"
            refine Rp1.putWaker P hc (some s) fun H2 Rp2 e2 => ?_
            have e3 : wakeM m w s = ({ m with waker := some s }, []) := by
              unfold wakeM; rw [if_neg hw, if_neg]
              cases hk : m.waker with
              | none => simpa using ha
              | some u => rw [hk] at hb; cases hb
            walk_at "w"
            refine ⟨_, ⟨?_, ?_, f1.but e2 (.inl rfl), rfl⟩, rfl, rfl, rfl, rfl, trivial⟩
            · rw [e3]; exact Rp2
            · rw [e3]; exact Rp1.keep x1 e2
    clear Rp1 f1 x1 H1
    rintro l H1 ⟨Rp1, x1, f1, rfl⟩
    have same1 := wake_same m w s
    have size1 := wake_sizes m w s
    have hok1 : HOk (wakeM m w s).1 := ⟨by rw [size1.1]; exact ho1, by rw [size1.2.1]; exact ho2, by rw [same1.others]; exact ho3⟩
    have cm : comeM m w s = endM (midM (wakeM m w s).1 w s).1 ((wakeM m w s).2 ++ (midM (wakeM m w s).1 w s).2) := rfl
    have ln1 := size1.2.2
    generalize (wakeM m w s).1 = m1 at Rp1 hok1 cm
    generalize (wakeM m w s).2 = g1 at x1 cm ln1
    refine ExecsW.seq (fun l H' => HandRep 118 H' A (if w = .ask then askedM m1 s else (m1, [])).1 ∧ H' x = some (.list ((g1 ++ (if w = .ask then askedM m1 s else (m1, [])).2).map lv)) ∧ HFrame H H' A ∧ l = [(Str.ofString "self", V.ref A.i), (Str.ofString "word", V.str w.str), (Str.ofString "sender", V.int ((s : Nat) : Int)), (Str.ofString "found", V.ref x)]) ?_ ?_
    · walk_at "w"
      rw [str_ask]
      refine ite_w (fun h => ?_) fun h => ?_
      · have hw : w = .ask := by simpa using h
        simp only [hw, if_true]
        walk_at "w"
        refine ⟨_, MethIs.extend x1, Plainly.builtin _, ?_⟩
        walk_at "w"
        refine ⟨_, Rp1.meth P hc (f := 110) (by with_unfolding_all rfl) (by kernel_rfl) (by kernel_rfl), Plainly.ofS P.X rfl, ?_⟩
        walk_at "w"
        refine (asked_ok P _).call ⟨A, m1, s, rfl, Rp1, hok1, ?_⟩
        intro H2 y r2 e2 n2 f2
        have x2 := Rp1.frame x1 nx f2
        have ms := mid_sizes m1 .ask s
        have nyx : y ≠ x := fun q => by rw [q, x1] at n2; cases n2
        walk_at "w"
        refine CallW.extend x2 e2 (by have := ms.2.2; have := hok1.1; have := hok1.2.2; simp only [List.length_map]; show _ + (midM m1 .ask s).2.length ≤ _; omega) ?_
        walk_at "w"
        refine ⟨_, ⟨r2.list x2 nx, ?_, (f1.trans f2).set hx, rfl⟩, rfl, rfl, rfl, rfl, trivial⟩
        rw [Hp.set_self, List.map_append]
      · have hw : w ≠ .ask := by simpa using h
        simp only [hw, if_false]
        walk_at "w"
        exact ⟨_, ⟨Rp1, by simpa using x1, f1, rfl⟩, rfl, rfl, rfl, rfl, trivial⟩
    clear Rp1 f1 x1 H1
    rintro l H1 ⟨Rp1, x1, f1, rfl⟩
    have hok2 : HOk (if w = .ask then askedM m1 s else (m1, [])).1 ∨ w = .ask := by
      by_cases hw : w = .ask
      · exact .inr hw
      · simp only [hw, if_false]; exact .inl hok1
    have cm2 : w = .freed → (if w = .ask then askedM m1 s else (m1, [])) = (m1, []) := fun h => by rw [h]; rfl
    refine ExecsW.seq (fun l H' => HandRep 118 H' A (midM m1 w s).1 ∧ H' x = some (.list ((g1 ++ (midM m1 w s).2).map lv)) ∧ HFrame H H' A ∧ l = [(Str.ofString "self", V.ref A.i), (Str.ofString "word", V.str w.str), (Str.ofString "sender", V.int ((s : Nat) : Int)), (Str.ofString "found", V.ref x)]) ?_ ?_
    · walk_at "w"
      rw [str_freed]
      refine ite_w (fun h => ?_) fun h => ?_
      · have hw : w = .freed := by simpa using h
        rw [cm2 hw] at Rp1 x1
        simp only [List.append_nil] at x1
        simp only [hw]
        walk_at "w"
        refine ⟨_, MethIs.extend x1, Plainly.builtin _, ?_⟩
        walk_at "w"
        refine ⟨_, Rp1.meth P hc (f := 115) (by with_unfolding_all rfl) (by kernel_rfl) (by kernel_rfl), Plainly.ofS P.X rfl, ?_⟩
        walk_at "w"
        refine (told_ok P _).call ⟨A, m1, s, rfl, Rp1, hok1, ?_⟩
        intro H2 y r2 e2 n2 f2
        have x2 := Rp1.frame x1 nx f2
        have ms := mid_sizes m1 .freed s
        walk_at "w"
        refine CallW.extend x2 e2 (by have := ms.2.2; have := hok1.1; have := hok1.2.2; simp only [List.length_map]; show _ + (midM m1 .freed s).2.length ≤ _; omega) ?_
        walk_at "w"
        refine ⟨_, ⟨r2.list x2 nx, ?_, (f1.trans f2).set hx, rfl⟩, rfl, rfl, rfl, rfl, trivial⟩
        rw [Hp.set_self, List.map_append]; rfl
      · have hw : w ≠ .freed := by simpa using h
        walk_at "w"
        have e3 : midM m1 w s = (if w = .ask then askedM m1 s else (m1, [])) := by
          cases w
          · rfl
          · exact absurd rfl hw
          · rfl
        rw [e3]
        exact ⟨_, ⟨Rp1, x1, f1, rfl⟩, rfl, rfl, rfl, rfl, trivial⟩
    clear Rp1 f1 x1 H1 cm2 hok2
    rintro l H1 ⟨Rp1, x1, f1, rfl⟩
    have ms := mid_sizes m1 w s
    have ln : (g1 ++ (midM m1 w s).2).length ≤ 1000 := by have := ms.2.2; have := hok1.1; have := hok1.2.2; rw [List.length_append]; omega
    generalize (midM m1 w s).1 = m2 at Rp1 cm
    generalize g1 ++ (midM m1 w s).2 = g2 at x1 cm ln
    walk_at "w"
    refine ite_w (fun h0 => ?_) fun h0 => ?_
    · walk_at "w"
      refine CmpW.isNotNone (ov_notCon _) ?_
      walk_at "w"
      rw [ov_isNone]
      refine ite_w (fun hb => ?_) fun hb => ?_
      · walk_at "w"
        refine ite_t rfl ?_
        obtain ⟨u, hu⟩ : ∃ u, m2.waker = some u := by
          cases hk : m2.waker with
          | none => rw [hk] at hb; cases hb
          | some u => exact ⟨u, rfl⟩
        have e0 : m2.owed = 0 := by simpa using h0
        walk_at "w"
        refine ⟨_, MethIs.append x1, Plainly.builtin _, ?_⟩
        walk_at "w"
        refine ⟨?_, by simp⟩
        refine ArgsW.nil ?_
        refine CallW.append x1 (by simpa using ln) ?_
        have Rp2 := Rp1.list (l' := g2.map lv ++ [V.tup [.str (Str.ofString "back"), .int ((m2.num : Nat) : Int), ov m2.waker]]) x1 nx
        have x2 : (H1.set x (.list (g2.map lv ++ [V.tup [.str (Str.ofString "back"), .int ((m2.num : Nat) : Int), ov m2.waker]]))) x = some (.list ((g2 ++ [(LW.back, m2.num, u)]).map lv)) := by
          rw [Hp.set_self, hu]; simp [lv, LW.str, nv, ov]
        have f2 : HFrame H (H1.set x (.list (g2.map lv ++ [V.tup [.str (Str.ofString "back"), .int ((m2.num : Nat) : Int), ov m2.waker]]))) A := f1.set hx
        generalize H1.set x (.list (g2.map lv ++ [V.tup [.str (Str.ofString "back"), .int ((m2.num : Nat) : Int), ov m2.waker]])) = H2 at Rp2 x2 f2
        walk_at "w"
        refine Rp2.putWaker P hc none fun H3 Rp3 e3 => ?_
        walk_at "w"
        have e4 : comeM m w s = ({ m2 with waker := none }, g2 ++ [(LW.back, m2.num, u)]) := by rw [cm]; unfold endM; rw [hu]; simp [e0]
        refine RetQ.here (hQ _ x ?_ ?_ hx (f2.but e3 (.inl rfl)))
        · rw [e4]; exact Rp3
        · rw [e4]; exact Rp2.keep x2 e3
      · refine ite_f rfl ?_
        walk_at "w"
        have e4 : comeM m w s = (m2, g2) := by
          rw [cm]; unfold endM
          cases hk : m2.waker with
          | none => rfl
          | some u => rw [hk] at hb; cases hb
        refine RetQ.here (hQ _ x ?_ ?_ hx f1)
        · rw [e4]; exact Rp1
        · rw [e4]; exact x1
    · refine ite_f rfl ?_
      walk_at "w"
      have e0 : m2.owed ≠ 0 := by simpa using h0
      have e4 : comeM m w s = (m2, g2) := by
        rw [cm]; unfold endM
        cases hk : m2.waker with
        | none => rfl
        | some u => simp [e0]
      refine RetQ.here (hQ _ x ?_ ?_ hx f1)
      · rw [e4]; exact Rp1
      · rw [e4]; exact x1

set_option maxHeartbeats 8000000 in
theorem init_ok (P : PCx C (KBx C)) (k : Nat) : FnOK C (k + 1) (.ref 84) (S_init 118) := by
  have hc := handC C
  refine FnOK.ofS (K := KBx C) [Str.ofString "self", Str.ofString "number", Str.ofString "wait", Str.ofString "is_asker"] P rfl rfl (by kernel_rfl) ?_ (by kernel_rfl) (by kernel_rfl) ?_
  · intro vals h
    rcases vals with _ | ⟨a, _ | ⟨b, _ | ⟨c, _ | ⟨d, _ | ⟨e, t⟩⟩⟩⟩⟩ <;> simp at h
    rfl
  · rintro args Q R H ⟨x, d, num, w, b, rfl, hx, hd, hn, hQ⟩
    refine ⟨rfl, fun L P => ?_⟩
    simp only [nv]
    have I0 : IRep 118 H H x d [] 0 := ⟨hx, hd, fun _ _ e _ => e⟩
    walk_at "w"
    refine I0.put P hc (by decide +kernel) (by decide) fun H1 I1 _ => ?_
    clear I0
    walk_at "w"
    refine I1.put P hc (by decide +kernel) (by decide) fun H2 I2 _ => ?_
    clear I1
    walk_at "w"
    refine CmpW.isNone (by rcases w with _ | ⟨_, _⟩ <;> trivial) ?_
    walk_at "w"
    refine I2.put P hc (by decide +kernel) (by decide) fun H3 I3 _ => ?_
    clear I2
    walk_at "w"
    refine I3.put P hc (by decide +kernel) (by decide) fun H4 I4 _ => ?_
    clear I3
    walk_at "w"
    refine EvalW.list_fz ?_
    walk_at "w"
    refine ⟨by simp, ?_⟩
    walk_at "w"
    refine I4.put P hc (by decide +kernel) (by decide) fun H5 I5 _ => ?_
    clear I4
    refine Cont.next (ExecsW.seq (fun l H' => IRep 118 H H' x d [(Str.ofString "number", .int ((num : Nat) : Int)), (Str.ofString "is_asker", .bool b), (Str.ofString "is_freed", .bool w.isNone), (Str.ofString "word", .str (initM num w b).word), (Str.ofString "others", .lst ((initM num w b).others.map nv))] 5 ∧ l = [(Str.ofString "self", V.ref x)]) ?_ ?_)
    · walk_at "w"
      refine CmpW.isNotNone (by rcases w with _ | ⟨_, _⟩ <;> trivial) ?_
      walk_at "w"
      rcases w with _ | ⟨a, l⟩
      · refine ite_f rfl ?_
        walk_at "w"
        exact ⟨_, ⟨I5, rfl⟩, rfl, trivial⟩
      · refine ite_t rfl ?_
        simp only [wv]
        walk_at "w"
        refine SubW.tup (by decide) (by decide) rfl ?_
        walk_at "w"
        refine I5.putOld P hc (by decide +kernel) (by decide) (by with_unfolding_all rfl) fun H6 I6 _ => ?_
        walk_at "w"
        refine SubW.tup (by decide) (by decide) rfl ?_
        walk_at "w"
        refine CallW.listCopyF rfl (by simpa [initM, HandM.others] using Nat.le_trans hn (by decide)) ?_
        walk_at "w"
        refine I6.putOld P hc (by decide +kernel) (by decide) (by with_unfolding_all rfl) fun H7 I7 _ => ?_
        walk_at "w"
        exact ⟨_, ⟨I7, rfl⟩, rfl, trivial⟩
    clear I5
    rintro l H5 ⟨I5, rfl⟩
    walk_at "w"
    refine I5.put P hc (by decide +kernel) (by decide) fun H6 I6 _ => ?_
    clear I5
    walk_at "w"
    refine EvalW.list ?_
    walk_at "w"
    refine ⟨by simp, fun ya hya => ?_⟩
    have hya0 := I6.old hya
    have I7 := I6.fresh (o := .list []) hya hya0
    have a7 : (H6.set ya (.list [])) ya = some (.list []) := Hp.set_self ..
    generalize H6.set ya (.list []) = H7 at I7 a7
    clear I6
    walk_at "w"
    refine I7.put P hc (by decide +kernel) (by decide) fun H8 I8 e8 => ?_
    have a8 : H8 ya = some (.list []) := by rw [e8 ya (Hp.ne' a7 I7.d (by simp))]; exact a7
    clear I7 a7
    walk_at "w"
    refine EvalW.dictI fun yh hyh => ?_
    have hyh0 := I8.old hyh
    have I9 := I8.fresh (o := .dictI (fun _ => none) 0) hyh hyh0
    have a9 : (H8.set yh (.dictI (fun _ => none) 0)) ya = some (.list []) := by rw [Hp.set_ne (Hp.ne a8 hyh)]; exact a8
    have h9 : (H8.set yh (.dictI (fun _ => none) 0)) yh = some (.dictI (fun _ => none) 0) := Hp.set_self ..
    generalize H8.set yh (.dictI (fun _ => none) 0) = H9 at I9 a9 h9
    clear I8 a8
    walk_at "w"
    refine I9.put P hc (by decide +kernel) (by decide) fun HA IA eA => ?_
    have aA : HA ya = some (.list []) := by rw [eA ya (Hp.ne' a9 I9.d (by simp))]; exact a9
    have hA : HA yh = some (.dictI (fun _ => none) 0) := by rw [eA yh (Hp.ne' h9 I9.d (by simp))]; exact h9
    clear I9 a9 h9
    walk_at "w"
    refine IA.put P hc (by decide +kernel) (by decide) fun HB IB eB => ?_
    have aB : HB ya = some (.list []) := by rw [eB ya (Hp.ne' aA IA.d (by simp))]; exact aA
    have hB : HB yh = some (.dictI (fun _ => none) 0) := by rw [eB yh (Hp.ne' hA IA.d (by simp))]; exact hA
    clear IA aA hA
    walk_at "w"
    refine IB.put P hc (by decide +kernel) (by decide) fun HC IC eC => ?_
    have aC : HC ya = some (.list []) := by rw [eC ya (Hp.ne' aB IB.d (by simp))]; exact aB
    have hC : HC yh = some (.dictI (fun _ => none) 0) := by rw [eC yh (Hp.ne' hB IB.d (by simp))]; exact hB
    walk_at "w"
    refine ⟨.none, HC, Fz.refl, ?_⟩
    refine hQ HC ⟨x, d, ya, yh⟩ rfl rfl ⟨IC.i, IC.d, aC, ?_⟩ hya0 hyh0 fun b o e q => IC.fr b o e q
    rw [hC]
    have : (fun _ => Option.none : Int → Option V) = heardM [] := by funext i; simp [heardM]
    rw [this]; rfl

variable {C : Cx}
theorem netC (C : Cx) : NetCls (KBx C) 248 := ⟨⟨by kernel_rfl, by kernel_rfl, by kernel_rfl, by kernel_rfl, by kernel_rfl⟩, by kernel_rfl⟩

set_option maxHeartbeats 4000000 in
theorem put_ok (P : PCx C (KBx C)) (k : Nat) : FnOK C (k + 1) (.ref 184) (S_put 118 248) := by
  have hc := handC C
  have hN := netC C
  refine FnOK.ofS (K := KBx C) [Str.ofString "self", Str.ofString "letters"] P rfl rfl (by kernel_rfl) ?_ (by kernel_rfl) (by kernel_rfl) ?_
  · intro vals h
    rcases vals with _ | ⟨a, _ | ⟨b, _ | ⟨c, t⟩⟩⟩ <;> simp at h
    rfl
  · rintro args Q R H ⟨N, As, n, asker, M, x, l, rfl, Rp, hx, hne, hlen, hQ⟩
    refine ⟨rfl, fun L P => ?_⟩
    walk_at "w"
    refine ⟨_, MethIs.extend Rp.row, Plainly.builtin _, ?_⟩
    walk_at "w"
    refine CallW.extend Rp.row hx (by simp only [List.length_map]; omega) ?_
    rw [← List.map_append]
    have Rp1 := Rp.setRow (M.row ++ l)
    have x1 : (H.set N.row (.list ((M.row ++ l).map lv))) x = some (.list (l.map lv)) := (Hp.set_ne hne).trans hx
    have e1 : ∀ b, b ≠ N.row → (H.set N.row (.list ((M.row ++ l).map lv))) b = H b := fun b hb => Hp.set_ne hb
    generalize H.set N.row (.list ((M.row ++ l).map lv)) = H1 at Rp1 x1 e1
    walk_at "w"
    refine CallW.len (lview_ref x1) (by simp only [List.length_map]; omega) ?_
    walk_at "w"
    have hcast : ((M.many : Nat) : Int) + ((l.map lv).length : Nat) = ((M.many + l.length : Nat) : Int) := by simp
    rw [hcast]
    refine Rp1.putMany P hN _ fun H2 Rp2 e2 => ?_
    walk_at "w"
    refine ⟨.none, H2, Fz.refl, hQ H2 Rp2 fun b h1 h2 => ?_⟩
    rw [e2 b h1, e1 b h2]

set_option maxHeartbeats 4000000 in
theorem hand_ok (P : PCx C (KBx C)) (k : Nat) : FnOK C (k + 2) (.ref 191) (S_hand 118 248) := by
  have hc := handC C
  have hN := netC C
  refine FnOK.ofS (K := KBx C) [Str.ofString "self", Str.ofString "number"] P rfl rfl (by kernel_rfl) ?_ (by kernel_rfl) (by kernel_rfl) ?_
  · intro vals h
    rcases vals with _ | ⟨a, _ | ⟨b, _ | ⟨c, t⟩⟩⟩ <;> simp at h
    rfl
  · rintro args Q R H ⟨N, As, n, asker, M, j, rfl, Rp, hj, hn, hQ⟩
    refine ⟨rfl, fun L P => ?_⟩
    simp only [nv]
    walk_at "w"
    refine CallW.len rfl (by rw [hrefs_len]; omega) ?_
    rw [hrefs_len]
    walk_at "w"
    refine (is_place_ok P _).call ⟨_, _, rfl, ?_⟩
    walk_at "w"
    refine ite_f (by simp; omega) ?_
    walk_at "w"
    refine SubW.list rfl (by omega) (by omega) (u := .ref (As j).i) (by simpa using hrefs_get hj) ?_
    walk_at "w"
    exact RetQ.here hQ

set_option maxHeartbeats 4000000 in
theorem owed_by_ok (P : PCx C (KBx C)) (k : Nat) : FnOK C (k + 3) (.ref 231) (S_owed_by 118 248) := by
  have hc := handC C
  have hN := netC C
  refine FnOK.ofS (K := KBx C) [Str.ofString "self", Str.ofString "hand"] P rfl rfl (by kernel_rfl) ?_ (by kernel_rfl) (by kernel_rfl) ?_
  · intro vals h
    rcases vals with _ | ⟨a, _ | ⟨b, _ | ⟨c, t⟩⟩⟩ <;> simp at h
    rfl
  · rintro args Q R H ⟨N, As, n, asker, M, j, rfl, Rp, hj, hn, hQ⟩
    refine ⟨rfl, fun L P => ?_⟩
    have Rj := Rp.hands j hj
    walk_at "w"
    refine ⟨_, Rp.meth P hN (f := 191) (by with_unfolding_all rfl) (by kernel_rfl) (by kernel_rfl), Plainly.ofS P.X rfl, ?_⟩
    walk_at "w"
    refine (hand_ok P _).call ⟨N, As, n, asker, M, j, rfl, Rp, hj, hn, ?_⟩
    walk_at "w"
    exact RetQ.here hQ

set_option maxHeartbeats 4000000 in
theorem waker_of_ok (P : PCx C (KBx C)) (k : Nat) : FnOK C (k + 3) (.ref 238) (S_waker_of 118 248) := by
  have hc := handC C
  have hN := netC C
  refine FnOK.ofS (K := KBx C) [Str.ofString "self", Str.ofString "hand"] P rfl rfl (by kernel_rfl) ?_ (by kernel_rfl) (by kernel_rfl) ?_
  · intro vals h
    rcases vals with _ | ⟨a, _ | ⟨b, _ | ⟨c, t⟩⟩⟩ <;> simp at h
    rfl
  · rintro args Q R H ⟨N, As, n, asker, M, j, rfl, Rp, hj, hn, hQ⟩
    refine ⟨rfl, fun L P => ?_⟩
    have Rj := Rp.hands j hj
    walk_at "w"
    refine ⟨_, Rp.meth P hN (f := 191) (by with_unfolding_all rfl) (by kernel_rfl) (by kernel_rfl), Plainly.ofS P.X rfl, ?_⟩
    walk_at "w"
    refine (hand_ok P _).call ⟨N, As, n, asker, M, j, rfl, Rp, hj, hn, ?_⟩
    walk_at "w"
    exact RetQ.here hQ

set_option maxHeartbeats 4000000 in
theorem letters_ok (P : PCx C (KBx C)) (k : Nat) : FnOK C (k + 1) (.ref 198) (S_letters 118 248) := by
  have hc := handC C
  have hN := netC C
  refine FnOK.ofS (K := KBx C) [Str.ofString "self"] P rfl rfl (by kernel_rfl) ?_ (by kernel_rfl) (by kernel_rfl) ?_
  · intro vals h
    rcases vals with _ | ⟨a, _ | ⟨b, t⟩⟩ <;> simp at h
    rfl
  · rintro args Q R H ⟨N, As, n, asker, M, rfl, Rp, hlen, hQ⟩
    refine ⟨rfl, fun L P => ?_⟩
    walk_at "w"
    rcases hQ with hQ | hQ
    · refine CallW.listCopyF (lview_ref Rp.row) (by simp only [List.length_map]; omega) ?_
      walk_at "w"
      exact RetQ.here hQ
    · refine CallW.listCopy (lview_ref Rp.row) (by simp only [List.length_map]; omega) fun x hx => ?_
      walk_at "w"
      exact RetQ.here (hQ x hx)

set_option maxHeartbeats 4000000 in
theorem sent_ok (P : PCx C (KBx C)) (k : Nat) : FnOK C (k + 1) (.ref 212) (S_sent 118 248) := by
  have hc := handC C
  have hN := netC C
  refine FnOK.ofS (K := KBx C) [Str.ofString "self"] P rfl rfl (by kernel_rfl) ?_ (by kernel_rfl) (by kernel_rfl) ?_
  · intro vals h
    rcases vals with _ | ⟨a, _ | ⟨b, t⟩⟩ <;> simp at h
    rfl
  · rintro args Q R H ⟨N, As, n, asker, M, rfl, Rp, hQ⟩
    refine ⟨rfl, fun L P => ?_⟩
    walk_at "w"
    exact RetQ.here hQ

set_option maxHeartbeats 4000000 in
theorem rung_ok (P : PCx C (KBx C)) (k : Nat) : FnOK C (k + 1) (.ref 219) (S_rung 118 248) := by
  have hc := handC C
  have hN := netC C
  refine FnOK.ofS (K := KBx C) [Str.ofString "self"] P rfl rfl (by kernel_rfl) ?_ (by kernel_rfl) (by kernel_rfl) ?_
  · intro vals h
    rcases vals with _ | ⟨a, _ | ⟨b, t⟩⟩ <;> simp at h
    rfl
  · rintro args Q R H ⟨N, As, n, asker, M, rfl, Rp, hj, hn, hQ⟩
    refine ⟨rfl, fun L P => ?_⟩
    have Rj := Rp.hands asker hj
    walk_at "w"
    refine SubW.list rfl (by omega) (by omega) (u := .ref (As asker).i) (by simpa using hrefs_get hj) ?_
    walk_at "w"
    refine ite_w (fun h => ?_) fun h => ?_
    · walk_at "w"
      refine RetQ.here ?_
      have h : 0 < (M.hands asker).owed := by simpa using h
      simpa [rungV, h] using hQ
    · walk_at "w"
      refine RetQ.here ?_
      have h : ¬ 0 < (M.hands asker).owed := by simpa using h
      simpa [rungV, h] using hQ

set_option maxHeartbeats 8000000 in
theorem bring_ok (P : PCx C (KBx C)) (k : Nat) : FnOK C (k + 5) (.ref 205) (S_bring 118 248) := by
  have hc := handC C
  have hN := netC C
  refine FnOK.ofS (K := KBx C) [Str.ofString "self", Str.ofString "place"] P rfl rfl (by kernel_rfl) ?_ (by kernel_rfl) (by kernel_rfl) ?_
  · intro vals h
    rcases vals with _ | ⟨a, _ | ⟨b, _ | ⟨c, t⟩⟩⟩ <;> simp at h
    rfl
  · rintro args Q R H ⟨N, As, n, asker, M, p, rfl, Rp, ⟨ok1, ok2, ok3⟩, hn, hp, hQ⟩
    refine ⟨rfl, fun L P => ?_⟩
    simp only [nv]
    walk_at "w"
    refine CallW.len (lview_ref Rp.row) (by simp only [List.length_map]; omega) ?_
    rw [List.length_map]
    walk_at "w"
    refine (is_place_ok P _).call ⟨_, _, rfl, ?_⟩
    walk_at "w"
    refine ite_f (by simp; omega) ?_
    walk_at "w"
    refine ⟨_, MethIs.pop Rp.row, Plainly.builtin _, ?_⟩
    walk_at "w"
    obtain ⟨⟨w, s, r⟩, hl⟩ : ∃ t, M.row[p]? = some t := ⟨_, List.getElem?_eq_getElem hp⟩
    have hr : r < n := ok2 _ (List.mem_of_getElem? hl)
    refine CallW.popAt Rp.row (by omega) (by omega) (u := lv (w, s, r)) (by simp [hl]) (by simp only [List.length_map]; omega) ?_
    rw [Int.toNat_natCast, map_eraseIdx']
    have Rp1 := Rp.setRow (M.row.eraseIdx p)
    have e1 : ∀ b, b ≠ N.row → (H.set N.row (.list ((M.row.eraseIdx p).map lv))) b = H b := fun b hb => Hp.set_ne hb
    generalize H.set N.row (.list ((M.row.eraseIdx p).map lv)) = H1 at Rp1 e1
    have hn1 : ∀ x, H1 x = none → H x = none := fun x hx => by
      rw [← e1 x (Hp.ne Rp1.row hx).symm]; exact hx
    have f1 : NFrame H H1 N As n := (NFrame.refl H N As n).but e1 (.inr (.inl rfl))
    have Rj := Rp1.hands r hr
    have sz := come_sizes (M.hands r) w s
    simp only [lv, nv]
    walk_at "w"
    refine SubW.tup (by decide) (by decide) rfl ?_
    walk_at "w"
    refine SubW.list rfl (by omega) (by omega) (u := .ref (As r).i) (by simpa using hrefs_get hr) ?_
    walk_at "w"
    refine ⟨_, Rj.meth P hc (f := 103) (by with_unfolding_all rfl) (by kernel_rfl) (by kernel_rfl), Plainly.ofS P.X rfl, ?_⟩
    walk_at "w"
    refine (come_ok P _).call ⟨As r, M.hands r, w, s, r, rfl, Rj, ok1 r hr, ?_⟩
    intro H2 x R2 x2 n2 fr2
    have Rp2 := Rp1.hand hr R2 fr2
    have f2 : NFrame H H2 N As n := f1.trans (NFrame.hand hr fr2)
    have nx : x ≠ N.row := fun q => by rw [q, Rp1.row] at n2; cases n2
    have nd : x ≠ N.d := fun q => by rw [q, Rp1.d] at n2; cases n2
    have h0 := hn1 x n2
    walk_at "w"
    refine ⟨_, Rp2.meth P hN (f := 184) (by with_unfolding_all rfl) (by kernel_rfl) (by kernel_rfl), Plainly.ofS P.X rfl, ?_⟩
    walk_at "w"
    have hk := ok1 r hr
    refine (put_ok P _).call ⟨N, As, n, asker, _, x, _, rfl, Rp2, x2, nx, ?_, ?_⟩
    · have h1 := List.length_eraseIdx_le M.row p
      have h2 := sz.2.2
      have h3 := hk.1
      have h4 := hk.2.2
      show (M.row.eraseIdx p).length + _ ≤ _
      omega
    intro H3 Rp3 e3
    have e4 : bringM M p = (⟨upd M.hands r (comeM (M.hands r) w s).1, M.row.eraseIdx p ++ (comeM (M.hands r) w s).2, M.many + (comeM (M.hands r) w s).2.length⟩, (comeM (M.hands r) w s).2) := by
      unfold bringM; rw [hl]
    walk_at "w"
    refine RetQ.here (hQ H3 x ?_ ?_ h0 ?_)
    · rw [e4]; exact Rp3
    · rw [e4, e3 x nd nx]; exact x2
    · intro b o e q
      rw [e3 b (fun z => q (.inl z)) (fun z => q (.inr (.inl z)))]
      exact f2 b o e q

set_option maxHeartbeats 4000000 in
theorem shown_ok (P : PCx C (KBx C)) (k : Nat) : FnOK C (k + 1) (.ref 224) (S_shown 118 248) := by
  have hc := handC C
  have hN := netC C
  refine FnOK.ofS (K := KBx C) [Str.ofString "self"] P rfl rfl (by kernel_rfl) ?_ (by kernel_rfl) (by kernel_rfl) ?_
  · intro vals h
    rcases vals with _ | ⟨a, _ | ⟨b, t⟩⟩ <;> simp at h
    rfl
  · rintro args Q R H ⟨N, As, n, asker, M, rfl, Rp, hn, hQ⟩
    refine ⟨rfl, fun L P => ?_⟩
    walk_at "w"
    rcases hQ with hQ | hQ
    · refine EvalW.compP (gR (fun k => (As k).i) n fun k => if ((M.hands k).has && !(M.hands k).freed) = true then some (nv (M.hands k).num) else none) rfl P.hd rfl ?_
      refine IterE.list ?_
      walk_at "w"
      refine ⟨_, rfl, by rw [hrefs_len]; omega, fun _ _ => rfl, ?_, ?_⟩
      · intro v hv H' hle
        rw [hrefs_refs] at hv
        obtain ⟨j, hj, rfl⟩ := List.mem_map.mp hv
        have hj : j < n := by simpa using hj
        have Rj := (Rp.hands j hj).le hle
        have gj := gR_ref (f := fun k => if ((M.hands k).has && !(M.hands k).freed) = true then some (nv (M.hands k).num) else none) hj Rp.inj
        refine PureStep.filt rfl fun L' => ?_
        walk_at "w"
        refine ite_w (fun h1 => ?_) fun h1 => ?_
        · walk_at "w"
          refine ite_w (fun h2 => ?_) fun h2 => ?_
          · walk_at "w"
            refine ⟨rfl, ite_t rfl ?_⟩
            walk_at "w"
            refine ⟨rfl, ?_⟩
            rw [gj, h1, h2]; rfl
          · refine ⟨rfl, ite_f rfl ?_⟩
            rw [gj, h1, h2]; rfl
        · refine ⟨rfl, ite_f rfl ?_⟩
          rw [gj, h1]; rfl
      rw [hrefs_refs, fm_refs Rp.inj, fm_filt]
      walk_at "w"
      exact RetQ.here hQ
    · refine EvalW.compO (gR (fun k => (As k).i) n fun k => if ((M.hands k).has && !(M.hands k).freed) = true then some (nv (M.hands k).num) else none) rfl P.hd rfl ?_
      refine IterE.list ?_
      walk_at "w"
      refine ⟨_, rfl, by rw [hrefs_len]; omega, fun _ _ => rfl, ?_, fun x hx => ?_⟩
      · intro v hv H' hle
        rw [hrefs_refs] at hv
        obtain ⟨j, hj, rfl⟩ := List.mem_map.mp hv
        have hj : j < n := by simpa using hj
        have Rj := (Rp.hands j hj).le hle
        have gj := gR_ref (f := fun k => if ((M.hands k).has && !(M.hands k).freed) = true then some (nv (M.hands k).num) else none) hj Rp.inj
        refine PureStep.filt rfl fun L' => ?_
        walk_at "w"
        refine ite_w (fun h1 => ?_) fun h1 => ?_
        · walk_at "w"
          refine ite_w (fun h2 => ?_) fun h2 => ?_
          · walk_at "w"
            refine ⟨rfl, ite_t rfl ?_⟩
            walk_at "w"
            refine ⟨rfl, ?_⟩
            rw [gj, h1, h2]; rfl
          · refine ⟨rfl, ite_f rfl ?_⟩
            rw [gj, h1, h2]; rfl
        · refine ⟨rfl, ite_f rfl ?_⟩
          rw [gj, h1]; rfl
      rw [hrefs_refs, fm_refs Rp.inj, fm_filt]
      walk_at "w"
      exact RetQ.here (hQ x hx)

variable {C : Cx}
set_option maxHeartbeats 8000000 in
theorem ninit_ok (P : PCx C (KBx C)) (k : Nat) : FnOK C (k + 5) (.ref 177) (S_ninit 118 248) := by
  have hc := handC C
  have hN := netC C
  refine FnOK.ofS (K := KBx C) [Str.ofString "self", Str.ofString "waits", Str.ofString "asker"] P rfl rfl (by kernel_rfl) ?_ (by kernel_rfl) (by kernel_rfl) ?_
  · intro vals h
    rcases vals with _ | ⟨a, _ | ⟨b, _ | ⟨c, _ | ⟨d, t⟩⟩⟩⟩ <;> simp at h
    rfl
  · rintro args Q R H ⟨x, d, W, asker, rfl, hWok, ha, hx, hd, hQ⟩
    refine ⟨rfl, fun L P => ?_⟩
    obtain ⟨hW1, hW2, hW3⟩ := id hWok
    simp only [nv]
    walk_at "w"
    refine (need_ok P _).call ⟨W, rfl, hWok, ?_⟩
    walk_at "w"
    refine CallW.len rfl (by simp; omega) ?_
    rw [List.length_map]
    walk_at "w"
    refine (is_place_ok P _).call ⟨_, _, rfl, ?_⟩
    walk_at "w"
    refine ite_f (by simp; omega) ?_
    walk_at "w"
    have J0 : JRep 248 H H x d [] 0 := ⟨hx, hd, fun _ _ e _ => e⟩
    refine J0.put P hN (by decide +kernel) (by decide) fun H1 J1 e1 => ?_
    walk_at "w"
    refine EvalW.comp true rfl P.hd (fun _ => ⟨_, _, _, rfl⟩) ?_
    refine IterE.enum (P.blt (by kernel_rfl) (by boot_fast)) rfl ?_
    walk_at "w"
    refine ⟨_, rfl, fun D r acc H' => ∃ (i : Nat) (As : Nat → HA), r = (enumV (W.map wv)).drop i ∧ i ≤ W.length ∧ acc = hrefs As i ∧ H' D = some (.list acc) ∧ H1 D = none ∧ HsRep 118 H1 H' W asker As i D, ⟨?_, ?_⟩, ?_, ?_, ?_⟩
    · rintro D r acc H' ⟨i, As, e1, e2, e3, e4, e5, e6⟩
      exact ⟨e4, by rw [e3, hrefs_len]; omega⟩
    · rintro L' D v r acc H' ⟨i, As, er, ei, ea, eD, e1D, Hs⟩
      obtain ⟨hv, hr, hi⟩ := drop_cons er
      obtain ⟨w, hw, hwm, rfl⟩ := enum_get hv
      have hi' : i < W.length := by rw [enumV_length, List.length_map] at hi; exact hi
      refine AssignL.tuple (.cons rfl (.cons rfl .nil)) rfl P.hd ⟨?_, ?_⟩
      · intro y u e
        simp only [setAll, Rho.set]
        split
        · rename_i q; subst q; cases e
        · split
          · rename_i q; subst q; cases e
          · exact e
      refine IfsW.nil ?_
      refine ite_t rfl ?_
      walk_at "w"
      have hst : startM W asker i = initM i w (decide (i = asker)) := by unfold startM; rw [List.getD_eq_getElem?_getD, hw]; rfl
      refine CallW.make P (by kernel_rfl) (by kernel_rfl) (by kernel_rfl) (init_ok P _) fun y z hy hz hyz => ?_
      refine ⟨y, z, i, w, _, rfl, Hp.set_self .., (Hp.set_ne hyz.symm).trans (Hp.set_self ..), ?_, ?_⟩
      · have := hW3 w hwm
        rcases w with _ | ⟨b, l⟩
        · exact Nat.zero_le _
        · exact Nat.le_trans this.2.2.2 (by decide)
      intro H'' A hA1 hA2 rep na nh fr
      refine ⟨rfl, ?_⟩
      have le : Hp.le H' H'' := fun b o e => by
        have b1 : b ≠ z := Hp.ne e hz
        have b2 : b ≠ y := Hp.ne e hy
        exact fr b o (by rw [Hp.set_ne b2, Hp.set_ne b1]; exact e) b1
      have back : ∀ q, ((H'.set z (.ns (Rho.of []) 0)).set y (.inst 118 z)) q = none → H' q = none := fun q hq => by
        by_cases q1 : q = y
        · rw [q1, Hp.set_self] at hq; cases hq
        · rw [Hp.set_ne q1] at hq
          by_cases q2 : q = z
          · rw [q2, Hp.set_self] at hq; cases hq
          · rw [Hp.set_ne q2] at hq; exact hq
      have hb : (decide (i = asker)) = ((i : Int) == (asker : Int)) := by
        by_cases q : i = asker
        · subst q; simp
        · have : ¬ (i : Int) = (asker : Int) := by omega
          simp [q]; exact this
      rw [← hb, ← hst] at rep
      refine ⟨le _ _ eD, i + 1, upd As i A, hr, by omega, ?_, Hp.set_self .., e1D, ?_⟩
      · rw [hrefs_step, ea, hA1]
      · exact Hs.step eD e1D le rep (by rw [hA1]; exact hy) (by rw [hA2]; exact hz) (back _ na) (back _ nh)
    · intro D hD
      exact ⟨0, fun _ => ⟨0, 0, 0, 0⟩, rfl, Nat.zero_le _, rfl, Hp.set_self .., hD, HsRep.zero hD⟩
    · intro D r acc H' _; rfl
    rintro D acc H' ⟨i, As, er, ei, ea, eD, e1D, Hs⟩
    have hi := drop_nil er
    rw [enumV_length, List.length_map] at hi
    have hi : i = W.length := by omega
    subst hi
    obtain ⟨fz, hands, le⟩ := Hs.done eD e1D
    refine ⟨_, _, fz, ?_⟩
    have J2 := J1.le le
    subst ea
    generalize H'.del D = H2 at hands le J2
    have nd0 : ∀ k < W.length, (As k).d ≠ d := fun k hk e => by
      have := (Hs.new k hk).2.1
      rw [e, J1.d] at this; cases this
    walk_at "w"
    refine J2.put P hN (by decide +kernel) (by decide) fun H3 J3 e3 => ?_
    have hands3 : ∀ k < W.length, HandRep 118 H3 (As k) (startM W asker k) := fun k hk => by
      have q := hands k hk
      exact ⟨(e3 _ (Hp.ne' q.i J2.d (by simp))).trans q.i, (e3 _ (nd0 k hk)).trans q.d, (e3 _ (Hp.ne' q.a J2.d (by simp))).trans q.a, (e3 _ (Hp.ne' q.h J2.d (by simp))).trans q.h⟩
    walk_at "w"
    refine EvalW.list ?_
    walk_at "w"
    refine ⟨by simp, fun rw hrw => ?_⟩
    have J4 := J3.le (Hp.le_set (o := .list []) hrw)
    have r4 : (H3.set rw (.list [])) rw = some (.list []) := Hp.set_self ..
    have hands4 : ∀ k < W.length, HandRep 118 (H3.set rw (.list [])) (As k) (startM W asker k) := fun k hk => (hands3 k hk).fresh hrw
    have na4 : ∀ k < W.length, (As k).a ≠ rw := fun k hk => Hp.ne (hands3 k hk).a hrw
    have hrw0 : H rw = none := J3.old hrw
    generalize H3.set rw (.list []) = H4 at J4 r4 hands4
    walk_at "w"
    refine J4.put P hN (by decide +kernel) (by decide) fun H5 J5 e5 => ?_
    have r5 : H5 rw = some (.list []) := (e5 _ (Hp.ne' r4 J4.d (by simp))).trans r4
    have hands5 : ∀ k < W.length, HandRep 118 H5 (As k) (startM W asker k) := fun k hk => by
      have q := hands4 k hk
      exact ⟨(e5 _ (Hp.ne' q.i J4.d (by simp))).trans q.i, (e5 _ (nd0 k hk)).trans q.d, (e5 _ (Hp.ne' q.a J4.d (by simp))).trans q.a, (e5 _ (Hp.ne' q.h J4.d (by simp))).trans q.h⟩
    walk_at "w"
    refine J5.put P hN (by decide +kernel) (by decide) fun H6 J6 e6 => ?_
    have r6 : H6 rw = some (.list []) := (e6 _ (Hp.ne' r5 J5.d (by simp))).trans r5
    have hands6 : ∀ k < W.length, HandRep 118 H6 (As k) (startM W asker k) := fun k hk => by
      have q := hands5 k hk
      exact ⟨(e6 _ (Hp.ne' q.i J5.d (by simp))).trans q.i, (e6 _ (nd0 k hk)).trans q.d, (e6 _ (Hp.ne' q.a J5.d (by simp))).trans q.a, (e6 _ (Hp.ne' q.h J5.d (by simp))).trans q.h⟩
    have Rp : NetRep 118 248 H6 ⟨x, d, rw⟩ As W.length asker ⟨startM W asker, [], 0⟩ := J6.net (H1 := H) (by with_unfolding_all rfl) rfl r6 hands6 Hs.sd nd0 na4
    have Rj := Rp.hands asker ha
    have old : ∀ b o, H b = some o → b ≠ d → H6 b = some o := J6.fr
    have foot : ∀ b, NFoot ⟨x, d, rw⟩ As W.length b → b = d ∨ H b = none := fun b hb => by
      have z : ∀ q, H1 q = none → H q = none := fun q hq => J1.old hq
      rcases hb with h | h | ⟨k, hk, h | h | h⟩
      · exact .inl h
      · rw [h]; exact .inr hrw0
      · rw [h]; exact .inr (z _ (Hs.new k hk).2.1)
      · rw [h]; exact .inr (z _ (Hs.new k hk).2.2.1)
      · rw [h]; exact .inr (z _ (Hs.new k hk).2.2.2)
    clear J0 J1 J2 J3 J4 J5 hands hands3 hands4 hands5 hands6
    walk_at "w"
    refine ⟨_, Rp.meth P hN (f := 184) (by with_unfolding_all rfl) (by kernel_rfl) (by kernel_rfl), Plainly.ofS P.X rfl, ?_⟩
    walk_at "w"
    refine Rp.get P hN (by decide +kernel) (by with_unfolding_all rfl) rfl ?_
    walk_at "w"
    refine SubW.list rfl (by omega) (by omega) (u := .ref (As asker).i) (by simpa using hrefs_get ha) ?_
    walk_at "w"
    refine ⟨_, Rj.meth P hc (f := 96) (by with_unfolding_all rfl) (by kernel_rfl) (by kernel_rfl), Plainly.ofS P.X rfl, ?_⟩
    walk_at "w"
    have hoth : (startM W asker asker).others.length ≤ 100 := by
      have hm : W.getD asker none ∈ W := by simp [List.getD_eq_getElem?_getD, ha]
      have := hW3 _ hm
      unfold startM initM HandM.others
      dsimp only
      split
      · exact Nat.zero_le _
      · rename_i b l e
        rw [e] at this; exact this.2.2.2
    refine (begin_ok P _).call ⟨As asker, _, rfl, Rj, by show (startM W asker asker).others.length ≤ 400; omega, ?_⟩
    intro H7 y R7 y7 n7 f7
    have Rp7 := Rp.hand ha R7 f7
    have bz := begin_sizes (startM W asker asker)
    walk_at "w"
    refine (put_ok P _).call ⟨⟨x, d, rw⟩, As, W.length, asker, _, y, _, rfl, Rp7, y7, (fun q => by rw [q, r6] at n7; cases n7), ?_, ?_⟩
    · have := bz.2.2
      show 0 + (beginM (startM W asker asker)).2.length ≤ 45000
      omega
    intro H8 Rp8 e8
    walk_at "w"
    refine ⟨.none, H8, Fz.refl, hQ H8 ⟨x, d, rw⟩ As rfl rfl ?_ ?_ foot⟩
    · have : netM W asker = ⟨upd (startM W asker) asker (beginM (startM W asker asker)).1, [] ++ (beginM (startM W asker asker)).2, 0 + (beginM (startM W asker asker)).2.length⟩ := by simp [netM]
      rw [this]; exact Rp8
    · intro b o e q
      have nf : ¬ NFoot ⟨x, d, rw⟩ As W.length b := fun z => by
        rcases foot b z with z | z
        · exact q z
        · rw [e] at z; cases z
      rw [e8 b (fun z => nf (.inl z)) (fun z => nf (.inr (.inl z)))]
      exact NFrame.hand (N := ⟨x, d, rw⟩) ha f7 b o (old b o e q) nf

variable {C : Cx}
noncomputable def S_handB (cH cN : Addr) : SpecT := fun args Q R H => ∃ (N : NAd) (As : Nat → HA) (n asker : Nat) (M : NetM) (v : V) (T : String), args = [.ref N.i, v] ∧ NetRep cH cN H N As n asker M ∧ n ≤ 1000 ∧ tyOf H v = some T ∧ isPlaceV v n = false ∧ XOut H (.no 56) R
noncomputable def S_bringB (cH cN : Addr) : SpecT := fun args Q R H => ∃ (N : NAd) (As : Nat → HA) (n asker : Nat) (M : NetM) (v : V) (T : String), args = [.ref N.i, v] ∧ NetRep cH cN H N As n asker M ∧ M.row.length ≤ 40000 ∧ tyOf H v = some T ∧ isPlaceV v M.row.length = false ∧ XOut H (.no 68) R
noncomputable def S_ninitB : SpecT := fun args Q R H => ∃ (x : Addr) (w v : V), args = [.ref x, w, v] ∧ ((∃ u, NeedR H w (some u) ∧ XOut H (.bad u) R) ∨ ∃ (W : List V) (T : String), w = .lst W ∧ NeedR H w none ∧ W.length ≤ 40 ∧ tyOf H v = some T ∧ isPlaceV v W.length = false ∧ XOut H (.no 56) R)
noncomputable def BadHs (m : Nat) (hl : List V) : Prop := ∃ (i : Nat) (v : V), hl[i]? = some v ∧ isPlaceV v m = false ∧ (∀ H, ∃ T, tyOf H v = some T) ∧ (∀ j, j < i → ∃ x : Nat, hl[j]? = some (nv x) ∧ x < m)
noncomputable def S_showsB : SpecT := fun args Q R H => ∃ (w : V) (hl : List V), args = [w, .lst hl] ∧ ((∃ u, NeedR H w (some u) ∧ XOut H (.bad u) R) ∨ ∃ (W : List V), w = .lst W ∧ NeedR H w none ∧ W.length ≤ 40 ∧ hl.length ≤ 100 ∧ BadHs W.length hl ∧ XOut H (.no 56) R)
noncomputable def S_freedB : SpecT := fun args Q R H => ∃ (w u : V), args = [w] ∧ NeedR H w (some u) ∧ XOut H (.bad u) R
theorem NeedO.good {H : Hp} {Q R : V → Hp → Prop} (h : Q (.bool true) H) : NeedO H none Q R := h
set_option maxHeartbeats 4000000 in
theorem handB_ok {l : List Env} (P : PCx C (KBx C)) (hC : C.frs = some l) (k : Nat) : FnOK C (k + 2) (.ref 191) (S_handB 118 248) := by
  have hc := handC C
  have hN := netC C
  refine FnOK.ofSX (K := KBx C) [Str.ofString "self", Str.ofString "number"] P hC rfl rfl (by kernel_rfl) ?_ (by kernel_rfl) (by kernel_rfl) ?_
  · intro vals h
    rcases vals with _ | ⟨a, _ | ⟨b, _ | ⟨c, t⟩⟩⟩ <;> simp at h
    rfl
  · rintro args Q R H ⟨N, As, n, asker, M, v, T, rfl, Rp, hn, hT, hv, hX⟩
    refine ⟨rfl, fun L P hfr hL => ?_⟩
    walk_at "w"
    refine CallW.len rfl (by rw [hrefs_len]; omega) ?_
    rw [hrefs_len]
    walk_at "w"
    refine (placeV_ok P _).call ⟨v, _, T, rfl, hT, ?_⟩
    rw [hv]
    walk_at "w"
    refine ite_t rfl ?_
    walk_at "w"
    refine ExecW.raise56 P rfl rfl rfl ?_
    walk_at "w"
    exact fun e H2 hx => hX.fresh hx

set_option maxHeartbeats 4000000 in
theorem owed_byB_ok {l : List Env} (P : PCx C (KBx C)) (hC : C.frs = some l) (k : Nat) : FnOK C (k + 3) (.ref 231) (S_handB 118 248) := by
  have hc := handC C
  have hN := netC C
  refine FnOK.ofSX (K := KBx C) [Str.ofString "self", Str.ofString "hand"] P hC rfl rfl (by kernel_rfl) ?_ (by kernel_rfl) (by kernel_rfl) ?_
  · intro vals h
    rcases vals with _ | ⟨a, _ | ⟨b, _ | ⟨c, t⟩⟩⟩ <;> simp at h
    rfl
  · rintro args Q R H ⟨N, As, n, asker, M, v, T, rfl, Rp, hn, hT, hv, hX⟩
    refine ⟨rfl, fun L P hfr hL => ?_⟩
    walk_at "w"
    refine ⟨_, Rp.meth P hN (f := 191) (by with_unfolding_all rfl) (by kernel_rfl) (by kernel_rfl), Plainly.ofS P.X rfl, ?_⟩
    walk_at "w"
    exact (handB_ok P hfr _).call ⟨N, As, n, asker, M, v, T, rfl, Rp, hn, hT, hv, hX.through⟩

set_option maxHeartbeats 4000000 in
theorem waker_ofB_ok {l : List Env} (P : PCx C (KBx C)) (hC : C.frs = some l) (k : Nat) : FnOK C (k + 3) (.ref 238) (S_handB 118 248) := by
  have hc := handC C
  have hN := netC C
  refine FnOK.ofSX (K := KBx C) [Str.ofString "self", Str.ofString "hand"] P hC rfl rfl (by kernel_rfl) ?_ (by kernel_rfl) (by kernel_rfl) ?_
  · intro vals h
    rcases vals with _ | ⟨a, _ | ⟨b, _ | ⟨c, t⟩⟩⟩ <;> simp at h
    rfl
  · rintro args Q R H ⟨N, As, n, asker, M, v, T, rfl, Rp, hn, hT, hv, hX⟩
    refine ⟨rfl, fun L P hfr hL => ?_⟩
    walk_at "w"
    refine ⟨_, Rp.meth P hN (f := 191) (by with_unfolding_all rfl) (by kernel_rfl) (by kernel_rfl), Plainly.ofS P.X rfl, ?_⟩
    walk_at "w"
    exact (handB_ok P hfr _).call ⟨N, As, n, asker, M, v, T, rfl, Rp, hn, hT, hv, hX.through⟩

set_option maxHeartbeats 4000000 in
theorem freed_yetB_ok {l : List Env} (P : PCx C (KBx C)) (hC : C.frs = some l) (k : Nat) : FnOK C (k + 3) (.ref 245) (S_handB 118 248) := by
  have hc := handC C
  have hN := netC C
  refine FnOK.ofSX (K := KBx C) [Str.ofString "self", Str.ofString "hand"] P hC rfl rfl (by kernel_rfl) ?_ (by kernel_rfl) (by kernel_rfl) ?_
  · intro vals h
    rcases vals with _ | ⟨a, _ | ⟨b, _ | ⟨c, t⟩⟩⟩ <;> simp at h
    rfl
  · rintro args Q R H ⟨N, As, n, asker, M, v, T, rfl, Rp, hn, hT, hv, hX⟩
    refine ⟨rfl, fun L P hfr hL => ?_⟩
    walk_at "w"
    refine ⟨_, Rp.meth P hN (f := 191) (by with_unfolding_all rfl) (by kernel_rfl) (by kernel_rfl), Plainly.ofS P.X rfl, ?_⟩
    walk_at "w"
    exact (handB_ok P hfr _).call ⟨N, As, n, asker, M, v, T, rfl, Rp, hn, hT, hv, hX.through⟩

set_option maxHeartbeats 4000000 in
theorem bringB_ok {l : List Env} (P : PCx C (KBx C)) (hC : C.frs = some l) (k : Nat) : FnOK C (k + 2) (.ref 205) (S_bringB 118 248) := by
  have hc := handC C
  have hN := netC C
  refine FnOK.ofSX (K := KBx C) [Str.ofString "self", Str.ofString "place"] P hC rfl rfl (by kernel_rfl) ?_ (by kernel_rfl) (by kernel_rfl) ?_
  · intro vals h
    rcases vals with _ | ⟨a, _ | ⟨b, _ | ⟨c, t⟩⟩⟩ <;> simp at h
    rfl
  · rintro args Q R H ⟨N, As, n, asker, M, v, T, rfl, Rp, hn, hT, hv, hX⟩
    refine ⟨rfl, fun L P hfr hL => ?_⟩
    walk_at "w"
    refine CallW.len (lview_ref Rp.row) (by simp only [List.length_map]; omega) ?_
    rw [List.length_map]
    walk_at "w"
    refine (placeV_ok P _).call ⟨v, _, T, rfl, hT, ?_⟩
    rw [hv]
    walk_at "w"
    refine ite_t rfl ?_
    walk_at "w"
    refine ExecW.raise68 P rfl rfl rfl ?_
    walk_at "w"
    exact fun e H2 hx => hX.fresh hx

set_option maxHeartbeats 4000000 in
theorem ninitB_ok {l : List Env} (P : PCx C (KBx C)) (hC : C.frs = some l) (k : Nat) : FnOK C (k + 6) (.ref 177) S_ninitB := by
  refine FnOK.ofSX (K := KBx C) [Str.ofString "self", Str.ofString "waits", Str.ofString "asker"] P hC rfl rfl (by kernel_rfl) ?_ (by kernel_rfl) (by kernel_rfl) ?_
  · intro vals h
    rcases vals with _ | ⟨a, _ | ⟨b, _ | ⟨c, _ | ⟨d, t⟩⟩⟩⟩ <;> simp at h
    rfl
  · rintro args Q R H ⟨x, w, v, rfl, ⟨u, hr, hX⟩ | ⟨W, T, rfl, hr, hW, hT, hv, hX⟩⟩
    · refine ⟨rfl, fun L P hfr hL => ?_⟩
      walk_at "w"
      exact (needX_ok P hfr k).call ⟨w, some u, rfl, hr, hX.through⟩
    · refine ⟨rfl, fun L P hfr hL => ?_⟩
      walk_at "w"
      refine (needX_ok P hfr k).call ⟨_, none, rfl, hr, NeedO.good ?_⟩
      walk_at "w"
      refine CallW.len rfl (by omega) ?_
      walk_at "w"
      refine (placeV_ok P _).call ⟨v, _, T, rfl, hT, ?_⟩
      rw [hv]
      walk_at "w"
      refine ite_t rfl ?_
      walk_at "w"
      refine ExecW.raise56 P rfl rfl rfl ?_
      walk_at "w"
      exact fun e H2 hx => hX.fresh hx

set_option maxHeartbeats 4000000 in
theorem showsB_ok {l : List Env} (P : PCx C (KBx C)) (hC : C.frs = some l) (k : Nat) : FnOK C (k + 6) (.ref 165) S_showsB := by
  refine FnOK.ofSX (K := KBx C) [Str.ofString "waits", Str.ofString "hands"] P hC rfl rfl (by kernel_rfl) ?_ (by kernel_rfl) (by kernel_rfl) ?_
  · intro vals h
    rcases vals with _ | ⟨a, _ | ⟨b, _ | ⟨c, t⟩⟩⟩ <;> simp at h
    rfl
  · rintro args Q R H ⟨w, hl, rfl, ⟨u, hr, hX⟩ | ⟨W, rfl, hr, hW, hz, ⟨i0, v0, hv0, hp0, hT0, hgd⟩, hX⟩⟩
    · refine ⟨rfl, fun L P hfr hL => ?_⟩
      walk_at "w"
      exact (needX_ok P hfr k).call ⟨w, some u, rfl, hr, hX.through⟩
    · refine ⟨rfl, fun L P hfr hL => ?_⟩
      walk_at "w"
      refine (needX_ok P hfr k).call ⟨_, none, rfl, hr, NeedO.good ?_⟩
      walk_at "w"
      refine EvalW.dictI fun a ha => ?_
      walk_at "w"
      refine ExecW.for_inX false P.hd (fun e => by cases e) hfr hL ?_
      refine IterE.list ?_
      walk_at "w"
      have hi0 : i0 < hl.length := (List.getElem?_eq_some_iff.mp hv0).1
      refine ⟨_, rfl, fun r l' H' => ∃ (i : Nat) (d : Int → Option V) (n : Nat), r = hl.drop i ∧ i ≤ i0 ∧ n ≤ i ∧ l' = [(Str.ofString "waits", V.lst W), (Str.ofString "there", V.ref a)] ∧ H' a = some (.dictI d n) ∧ Hp.le H H', ?_, ?_, ?_, ?_⟩
      · exact ⟨_, ⟨0, _, 0, rfl, Nat.zero_le _, Nat.le_refl _, rfl, Hp.set_self .., Hp.le_set ha⟩, rfl, rfl, trivial⟩
      · intros; rfl
      · rintro v r l' H' ⟨i, d, n, e, hi, hni, rfl, h1, h3⟩
        obtain ⟨hv, hr', hlt⟩ := drop_cons e
        refine AssignW.name (Or.inl rfl) ?_
        walk_at "w"
        refine CallW.len rfl (by omega) ?_
        walk_at "w"
        by_cases hii : i = i0
        · subst hii
          rw [hv0] at hv
          cases hv
          obtain ⟨T, hT⟩ := hT0 H'
          refine (placeV_ok P _).call ⟨v0, _, T, rfl, hT, ?_⟩
          rw [hp0]
          walk_at "w"
          refine ite_t rfl ?_
          walk_at "w"
          refine ExecW.raise56 P rfl rfl rfl ?_
          walk_at "w"
          exact fun e H2 hx => (hX.le h3).loop hx
        · obtain ⟨x, hx, hxm⟩ := hgd i (by omega)
          rw [hx] at hv
          cases hv
          simp only [nv]
          refine (is_place_ok P _).call ⟨_, _, rfl, ?_⟩
          walk_at "w"
          refine ite_f (by simp; omega) ?_
          walk_at "w"
          refine SetW.dictI h1 (by omega) ?_
          walk_at "w"
          exact ⟨_, ⟨i + 1, _, n + 1, hr', by omega, by omega, rfl, Hp.set_self .., Hp.le_set' h3 ha⟩, rfl, rfl, trivial⟩
      · rintro l' H' ⟨i, d, n, e, hi, _⟩
        have hle := drop_nil e
        omega

set_option maxHeartbeats 4000000 in
theorem freedB_ok {l : List Env} (P : PCx C (KBx C)) (hC : C.frs = some l) (k : Nat) : FnOK C (k + 6) (.ref 155) S_freedB := by
  refine FnOK.ofSX (K := KBx C) [Str.ofString "waits"] P hC rfl rfl (by kernel_rfl) ?_ (by kernel_rfl) (by kernel_rfl) ?_
  · intro vals h
    rcases vals with _ | ⟨a, _ | ⟨b, t⟩⟩ <;> simp at h
    rfl
  · rintro args Q R H ⟨w, u, rfl, hr, hX⟩
    refine ⟨rfl, fun L P hfr hL => ?_⟩
    walk_at "w"
    exact (needX_ok P hfr k).call ⟨w, some u, rfl, hr, hX.through⟩

set_option maxHeartbeats 4000000 in
theorem stuckB_ok {l : List Env} (P : PCx C (KBx C)) (hC : C.frs = some l) (k : Nat) : FnOK C (k + 7) (.ref 160) S_freedB := by
  refine FnOK.ofSX (K := KBx C) [Str.ofString "waits"] P hC rfl rfl (by kernel_rfl) ?_ (by kernel_rfl) (by kernel_rfl) ?_
  · intro vals h
    rcases vals with _ | ⟨a, _ | ⟨b, t⟩⟩ <;> simp at h
    rfl
  · rintro args Q R H ⟨w, u, rfl, hr, hX⟩
    refine ⟨rfl, fun L P hfr hL => ?_⟩
    walk_at "w"
    exact (freedB_ok P hfr k).call ⟨w, u, rfl, hr, hX.through⟩
variable {C : Cx}
inductive DeedR (n rl : Nat) : Int → V → V → List V → Option XK → Prop
  | net0 {w v : V} {hl : List V} {u : V} (h : ∀ H, NeedR H w (some u)) : DeedR n rl 0 w v hl (some (.bad u))
  | net1 {W : List V} {v : V} {hl : List V} (h : ∀ H, NeedR H (.lst W) none) (hW : W.length ≤ 40) (hT : ∀ H, ∃ T, tyOf H v = some T) (hv : isPlaceV v W.length = false) : DeedR n rl 0 (.lst W) v hl (some (.no 56))
  | shows0 {w v : V} {hl : List V} {u : V} (h : ∀ H, NeedR H w (some u)) : DeedR n rl 1 w v hl (some (.bad u))
  | shows1 {W : List V} {v : V} {hl : List V} (h : ∀ H, NeedR H (.lst W) none) (hW : W.length ≤ 40) (hz : hl.length ≤ 100) (hb : BadHs W.length hl) : DeedR n rl 1 (.lst W) v hl (some (.no 56))
  | hand {kd : Int} {w v : V} {hl : List V} (h2 : kd = 2 ∨ kd = 3 ∨ kd = 4) (hT : ∀ H, ∃ T, tyOf H v = some T) (hv : isPlaceV v n = false) : DeedR n rl kd w v hl (some (.no 56))
  | bring {w v : V} {hl : List V} (hT : ∀ H, ∃ T, tyOf H v = some T) (hv : isPlaceV v rl = false) : DeedR n rl 5 w v hl (some (.no 68))
  | bad {kd : Int} {w v : V} {hl : List V} {u : V} (h2 : kd = 6 ∨ kd = 7) (h : ∀ H, NeedR H w (some u)) : DeedR n rl kd w v hl (some (.bad u))
  | good {kd : Int} {W : List Wt} {v : V} {hl : List V} (h2 : kd = 6 ∨ kd = 7) (h : WsOk W) : DeedR n rl kd (.lst (W.map wv)) v hl none
noncomputable def DeedO (H : Hp) (o : Option XK) (Q R : V → Hp → Prop) : Prop := match o with
  | none => Q .none H
  | some x => XOut H x R
noncomputable def S_deed (cH cN : Addr) : SpecT := fun args Q R H => ∃ (kd : Int) (w v : V) (hl : List V) (N : NAd) (As : Nat → HA) (n asker : Nat) (M : NetM) (o : Option XK), args = [.int kd, w, .ref N.i, v, .lst hl] ∧ NetRep cH cN H N As n asker M ∧ n ≤ 1000 ∧ M.row.length ≤ 40000 ∧ DeedR n M.row.length kd w v hl o ∧ DeedO H o Q R
theorem make_le {H : Hp} {x d : Addr} {o1 o2 : O} (hx : H x = none) (hd : H d = none) : Hp.le H ((H.set d o1).set x o2) := fun b o e => by
  rw [Hp.set_ne (Hp.ne e hx), Hp.set_ne (Hp.ne e hd)]; exact e
set_option maxHeartbeats 8000000 in
theorem deed_ok {l : List Env} (P : PCx C (KBx C)) (hC : C.frs = some l) (k : Nat) : FnOK C (k + 8) (.ref 266) (S_deed 118 248) := by
  have hc := handC C
  have hN := netC C
  refine FnOK.ofSX (K := KBx C) [Str.ofString "_law_kind", Str.ofString "_law_waits", Str.ofString "_law_net", Str.ofString "_law_wrong_here", Str.ofString "_law_hands"] P hC rfl rfl (by kernel_rfl) ?_ (by kernel_rfl) (by kernel_rfl) ?_
  · intro vals h
    rcases vals with _ | ⟨a, _ | ⟨b, _ | ⟨c, _ | ⟨d, _ | ⟨e, _ | ⟨f, t⟩⟩⟩⟩⟩⟩ <;> simp at h
    rfl
  · rintro args Q R H ⟨kd, w, v, hl, N, As, n, asker, M, o, rfl, Rp, hn, hrl, hd, hO⟩
    refine ⟨rfl, fun L P hfr hL => ?_⟩
    cases hd with
    | net0 h =>
      rename_i u
      have hX : XOut H (.bad u) R := hO
      walk_at "w"
      refine ite_t rfl ?_
      walk_at "w"
      exact CallW.make P (by kernel_rfl) (by kernel_rfl) (by kernel_rfl) (ninitB_ok P hfr _) fun x d hx hd hne => ⟨x, w, v, rfl, .inl ⟨u, h _, (hX.le (make_le hx hd)).through⟩⟩
    | net1 h hW hT hv =>
      have hX : XOut H (.no 56) R := hO
      walk_at "w"
      refine ite_t rfl ?_
      walk_at "w"
      exact CallW.make P (by kernel_rfl) (by kernel_rfl) (by kernel_rfl) (ninitB_ok P hfr _) fun x d hx hd hne => let ⟨T, hT⟩ := hT _; ⟨x, _, v, rfl, .inr ⟨_, T, rfl, h _, hW, hT, hv, (hX.le (make_le hx hd)).through⟩⟩
    | shows0 h =>
      rename_i u
      have hX : XOut H (.bad u) R := hO
      walk_at "w"
      refine ite_f rfl ?_
      walk_at "w"
      refine ite_t rfl ?_
      walk_at "w"
      exact (showsB_ok P hfr _).call ⟨w, hl, rfl, .inl ⟨u, h _, hX.through⟩⟩
    | shows1 h hW hz hb =>
      have hX : XOut H (.no 56) R := hO
      walk_at "w"
      refine ite_f rfl ?_
      walk_at "w"
      refine ite_t rfl ?_
      walk_at "w"
      exact (showsB_ok P hfr _).call ⟨_, hl, rfl, .inr ⟨_, rfl, h _, hW, hz, hb, hX.through⟩⟩
    | hand h2 hT hv =>
      have hX : XOut H (.no 56) R := hO
      obtain ⟨T, hT⟩ := hT H
      rcases h2 with rfl | rfl | rfl
      · walk_at "w"
        refine ite_f rfl ?_
        walk_at "w"
        refine ite_f rfl ?_
        walk_at "w"
        refine ite_t rfl ?_
        walk_at "w"
        refine ⟨_, Rp.meth P hN (f := 231) (by with_unfolding_all rfl) (by kernel_rfl) (by kernel_rfl), Plainly.ofS P.X rfl, ?_⟩
        walk_at "w"
        exact (owed_byB_ok P hfr _).call ⟨N, As, n, asker, M, v, T, rfl, Rp, hn, hT, hv, hX.through⟩
      · walk_at "w"
        refine ite_f rfl ?_
        walk_at "w"
        refine ite_f rfl ?_
        walk_at "w"
        refine ite_f rfl ?_
        walk_at "w"
        refine ite_t rfl ?_
        walk_at "w"
        refine ⟨_, Rp.meth P hN (f := 238) (by with_unfolding_all rfl) (by kernel_rfl) (by kernel_rfl), Plainly.ofS P.X rfl, ?_⟩
        walk_at "w"
        exact (waker_ofB_ok P hfr _).call ⟨N, As, n, asker, M, v, T, rfl, Rp, hn, hT, hv, hX.through⟩
      · walk_at "w"
        refine ite_f rfl ?_
        walk_at "w"
        refine ite_f rfl ?_
        walk_at "w"
        refine ite_f rfl ?_
        walk_at "w"
        refine ite_f rfl ?_
        walk_at "w"
        refine ite_t rfl ?_
        walk_at "w"
        refine ⟨_, Rp.meth P hN (f := 245) (by with_unfolding_all rfl) (by kernel_rfl) (by kernel_rfl), Plainly.ofS P.X rfl, ?_⟩
        walk_at "w"
        exact (freed_yetB_ok P hfr _).call ⟨N, As, n, asker, M, v, T, rfl, Rp, hn, hT, hv, hX.through⟩
    | bring hT hv =>
      have hX : XOut H (.no 68) R := hO
      obtain ⟨T, hT⟩ := hT H
      walk_at "w"
      refine ite_f rfl ?_
      walk_at "w"
      refine ite_f rfl ?_
      walk_at "w"
      refine ite_f rfl ?_
      walk_at "w"
      refine ite_f rfl ?_
      walk_at "w"
      refine ite_f rfl ?_
      walk_at "w"
      refine ite_t rfl ?_
      walk_at "w"
      refine ⟨_, Rp.meth P hN (f := 205) (by with_unfolding_all rfl) (by kernel_rfl) (by kernel_rfl), Plainly.ofS P.X rfl, ?_⟩
      walk_at "w"
      exact (bringB_ok P hfr _).call ⟨N, As, n, asker, M, v, T, rfl, Rp, hrl, hT, hv, hX.through⟩
    | bad h2 h =>
      rename_i u
      have hX : XOut H (.bad u) R := hO
      walk_at "w"
      refine ite_f (by rcases h2 with rfl | rfl <;> rfl) ?_
      walk_at "w"
      refine ite_f (by rcases h2 with rfl | rfl <;> rfl) ?_
      walk_at "w"
      refine ite_f (by rcases h2 with rfl | rfl <;> rfl) ?_
      walk_at "w"
      refine ite_f (by rcases h2 with rfl | rfl <;> rfl) ?_
      walk_at "w"
      refine ite_f (by rcases h2 with rfl | rfl <;> rfl) ?_
      walk_at "w"
      refine ite_f (by rcases h2 with rfl | rfl <;> rfl) ?_
      walk_at "w"
      rcases h2 with rfl | rfl
      · refine ite_t rfl ?_
        walk_at "w"
        exact (freedB_ok P hfr _).call ⟨w, u, rfl, h _, hX.through⟩
      · refine ite_f rfl ?_
        walk_at "w"
        refine ite_t rfl ?_
        walk_at "w"
        exact (stuckB_ok P hfr _).call ⟨w, u, rfl, h _, hX.through⟩
    | good h2 h =>
      rename_i W
      have hQ : Q .none H := hO
      walk_at "w"
      refine ite_f (by rcases h2 with rfl | rfl <;> rfl) ?_
      walk_at "w"
      refine ite_f (by rcases h2 with rfl | rfl <;> rfl) ?_
      walk_at "w"
      refine ite_f (by rcases h2 with rfl | rfl <;> rfl) ?_
      walk_at "w"
      refine ite_f (by rcases h2 with rfl | rfl <;> rfl) ?_
      walk_at "w"
      refine ite_f (by rcases h2 with rfl | rfl <;> rfl) ?_
      walk_at "w"
      refine ite_f (by rcases h2 with rfl | rfl <;> rfl) ?_
      walk_at "w"
      rcases h2 with rfl | rfl
      · refine ite_t rfl ?_
        walk_at "w"
        refine (freed_ok P _).call ⟨W, rfl, h, ?_⟩
        walk_at "w"
        refine ite_f rfl ?_
        walk_at "w"
        exact ⟨.none, H, Fz.refl, hQ⟩
      · refine ite_f rfl ?_
        walk_at "w"
        refine ite_t rfl ?_
        walk_at "w"
        refine (stuck_ok P _).call ⟨W, rfl, h, ?_⟩
        walk_at "w"
        exact ⟨.none, H, Fz.refl, hQ⟩
variable {C : Cx}
noncomputable def outV : Option XK → V
  | none => .str (Str.ofString "")
  | some (.no c) => .str (Str.ofString (if c = 56 then "hand" else "letter"))
  | some (.bad u) => .tup [.str (Str.ofString "waits"), u]
theorem NeedR.plain {H : Hp} {v u : V} {r : Option V} (h : NeedR H v r) (e : r = some u) : u.plain = true := by
  cases h <;> cases e <;> rfl
theorem DeedR.kinds {n rl : Nat} {kd : Int} {w v : V} {hl : List V} {o : Option XK} (h : DeedR n rl kd w v hl o) : o = none ∨ o = some (.no 56) ∨ o = some (.no 68) ∨ ∃ u, o = some (.bad u) ∧ u.plain = true := by
  cases h with
  | net0 h => exact .inr (.inr (.inr ⟨_, rfl, (h fun _ => none).plain rfl⟩))
  | net1 => exact .inr (.inl rfl)
  | shows0 h => exact .inr (.inr (.inr ⟨_, rfl, (h fun _ => none).plain rfl⟩))
  | shows1 => exact .inr (.inl rfl)
  | hand => exact .inr (.inl rfl)
  | bring => exact .inr (.inr (.inl rfl))
  | bad _ h => exact .inr (.inr (.inr ⟨_, rfl, (h fun _ => none).plain rfl⟩))
  | good => exact .inl rfl
theorem DeedR.kinds2 {n rl : Nat} {kd : Int} {w v : V} {hl : List V} {o : Option XK} (h : DeedR n rl kd w v hl o) : o = none ∨ (∃ c : Addr, (c = 56 ∨ c = 68) ∧ o = some (.no c)) ∨ ∃ u, o = some (.bad u) ∧ u.plain = true := by
  rcases h.kinds with h | h | h | h
  · exact .inl h
  · exact .inr (.inl ⟨56, .inl rfl, h⟩)
  · exact .inr (.inl ⟨68, .inr rfl, h⟩)
  · exact .inr (.inr h)
noncomputable def S_by (cH cN : Addr) : SpecT := fun args Q R H => ∃ (kd : Int) (w v : V) (hl : List V) (N : NAd) (As : Nat → HA) (n asker : Nat) (M : NetM) (o : Option XK), args = [.int kd, w, .ref N.i, v, .lst hl] ∧ NetRep cH cN H N As n asker M ∧ n ≤ 1000 ∧ M.row.length ≤ 40000 ∧ DeedR n M.row.length kd w v hl o ∧ (∀ b, NTb H b) ∧ Q (outV o) H
theorem DeedO.good {H : Hp} {Q R : V → Hp → Prop} (h : Q .none H) : DeedO H none Q R := h
theorem DeedO.x {H : Hp} {x : XK} {Q R : V → Hp → Prop} (h : XOut H x R) : DeedO H (some x) Q R := h
section
variable {C' : Cx} {k : Nat} {Q R : V → Hp → Prop} {H : Hp}
theorem isi44 (P : (KBx C').In C.base) {e d : Addr} {T : Option Addr} {m : Str → Option V} {n : Nat} {cl : Value} {b : Bool} (he : H e = some (.exc 44 (some d) T)) (hd : H d = some (.ns m n)) (hk : kitOne (KBx C') (.ref 44) cl = some b) (h : Q (.bool b) H) : CallW C k (.builtin "isinstance") [.ref e, .con cl] Q R H :=
  CallW.isi_exc P (ok44 _) (by kernel_rfl) (by kernel_rfl) (by kernel_rfl) (by kernel_rfl) he hd hk h
theorem isi56 (P : (KBx C').In C.base) {e : Addr} {T : Option Addr} {cl : Value} {b : Bool} (he : H e = some (.exc 56 none T)) (hk : kitOne (KBx C') (.ref 56) cl = some b) (h : Q (.bool b) H) : CallW C k (.builtin "isinstance") [.ref e, .con cl] Q R H :=
  CallW.isi_exc0 P (ok56 _) (by kernel_rfl) (by kernel_rfl) (by kernel_rfl) (by kernel_rfl) he hk h
theorem isi68 (P : (KBx C').In C.base) {e : Addr} {T : Option Addr} {cl : Value} {b : Bool} (he : H e = some (.exc 68 none T)) (hk : kitOne (KBx C') (.ref 68) cl = some b) (h : Q (.bool b) H) : CallW C k (.builtin "isinstance") [.ref e, .con cl] Q R H :=
  CallW.isi_exc0 P (ok68 _) (by kernel_rfl) (by kernel_rfl) (by kernel_rfl) (by kernel_rfl) he hk h
theorem isiNo (P : (KBx C').In C.base) {c e : Addr} (hc : c = 56 ∨ c = 68) {T : Option Addr} {cl : Value} (he : H e = some (.exc c none T)) {b : Addr → Bool} (h5 : kitOne (KBx C') (.ref 56) cl = some (b 56)) (h6 : kitOne (KBx C') (.ref 68) cl = some (b 68)) (h : Q (.bool (b c)) H) : CallW C k (.builtin "isinstance") [.ref e, .con cl] Q R H := by
  rcases hc with rfl | rfl
  · exact isi56 P he h5 h
  · exact isi68 P he h6 h
end
set_option maxHeartbeats 8000000 in
theorem by_name_ok {l : List Env} (P : PCx C (KBx C)) (hC : C.frs = some l) (k : Nat) : FnOK C (k + 9) (.ref 273) (S_by 118 248) := by
  refine FnOK.ofSX (K := KBx C) [Str.ofString "_law_kind", Str.ofString "_law_waits", Str.ofString "_law_net", Str.ofString "_law_wrong_here", Str.ofString "_law_hands"] P hC rfl rfl (by kernel_rfl) ?_ (by kernel_rfl) (by kernel_rfl) ?_
  · intro vals h
    rcases vals with _ | ⟨a, _ | ⟨b, _ | ⟨c, _ | ⟨d, _ | ⟨e, _ | ⟨f, t⟩⟩⟩⟩⟩⟩ <;> simp at h
    rfl
  · rintro args Q R H ⟨kd, w, v, hl, N, As, n, asker, M, o, rfl, Rp, hn, hrl, hd, nt, hQ⟩
    refine ⟨rfl, fun L P hfr hL => ?_⟩
    walk_at "w"
    refine ExecW.try_hs (PQ := fun u H' => RetQ Q (.ret u) (fun _ => none) H') P hfr hL (fun u ρ H h => h) ?_
    walk_at "w"
    refine (deed_ok P hfr k).call ⟨kd, w, v, hl, N, As, n, asker, M, o, rfl, Rp, hn, hrl, hd, ?_⟩
    rcases hd.kinds with rfl | rfl | rfl | ⟨u, rfl, hu⟩
    · refine DeedO.good ?_
      walk_at "w"
      exact RetQ.here hQ
    · refine DeedO.x (XOut.caught nt fun e H' hx hle he => ?_)
      obtain ⟨T, h1, h2⟩ := hx
      refine ⟨56, none, T, h1, h2, HndW.hit (cX := 56) (EvalW.global (PCx.glob (v := .ref 56) P (by kernel_rfl)) ⟨rfl, rfl⟩ rfl) (by kernel_rfl) ?_⟩
      walk_at "w"
      exact OnlyRet.here (RetQ.fz (Fz.drop hle) hQ)
    · refine DeedO.x (XOut.caught nt fun e H' hx hle he => ?_)
      obtain ⟨T, h1, h2⟩ := hx
      refine ⟨68, none, T, h1, h2, HndW.skip (cX := 56) (EvalW.global (PCx.glob (v := .ref 56) P (by kernel_rfl)) ⟨rfl, rfl⟩ rfl) (by kernel_rfl) (HndW.hit (cX := 68) (EvalW.global (PCx.glob (v := .ref 68) P (by kernel_rfl)) ⟨rfl, rfl⟩ rfl) (by kernel_rfl) ?_)⟩
      walk_at "w"
      exact OnlyRet.here (RetQ.fz (Fz.drop hle) hQ)
    · refine DeedO.x (XOut.caught nt fun e H' hx hle he => ?_)
      obtain ⟨d, T, h1, h2, h3⟩ := hx
      refine ⟨44, some d, T, h1, h2, HndW.skip (cX := 56) (EvalW.global (PCx.glob (v := .ref 56) P (by kernel_rfl)) ⟨rfl, rfl⟩ rfl) (by kernel_rfl) (HndW.skip (cX := 68) (EvalW.global (PCx.glob (v := .ref 68) P (by kernel_rfl)) ⟨rfl, rfl⟩ rfl) (by kernel_rfl) (HndW.hitAs (cX := 44) rfl (EvalW.global (PCx.glob (v := .ref 44) P (by kernel_rfl)) ⟨rfl, rfl⟩ rfl) (by kernel_rfl) ?_))⟩
      walk_at "w"
      refine AttrW.exc (K := KBx C) (name := Str.ofString "at") (by exact P.X) (ok44 _) h1 h3 (v := u) rfl (by kernel_rfl) hu ?_
      walk_at "w"
      refine ⟨?_, by simp⟩
      walk_at "w"
      exact OnlyRet.here (RetQ.fz (Fz.drop hle) hQ)
set_option maxHeartbeats 8000000 in
theorem by_base_ok {l : List Env} (P : PCx C (KBx C)) (hC : C.frs = some l) (k : Nat) : FnOK C (k + 9) (.ref 280) (S_by 118 248) := by
  refine FnOK.ofSX (K := KBx C) [Str.ofString "_law_kind", Str.ofString "_law_waits", Str.ofString "_law_net", Str.ofString "_law_wrong_here", Str.ofString "_law_hands"] P hC rfl rfl (by kernel_rfl) ?_ (by kernel_rfl) (by kernel_rfl) ?_
  · intro vals h
    rcases vals with _ | ⟨a, _ | ⟨b, _ | ⟨c, _ | ⟨d, _ | ⟨e, _ | ⟨f, t⟩⟩⟩⟩⟩⟩ <;> simp at h
    rfl
  · rintro args Q R H ⟨kd, w, v, hl, N, As, n, asker, M, o, rfl, Rp, hn, hrl, hd, nt, hQ⟩
    refine ⟨rfl, fun L P hfr hL => ?_⟩
    walk_at "w"
    refine ExecW.try_hs (PQ := fun u H' => RetQ Q (.ret u) (fun _ => none) H') P hfr hL (fun u ρ H h => h) ?_
    walk_at "w"
    refine (deed_ok P hfr k).call ⟨kd, w, v, hl, N, As, n, asker, M, o, rfl, Rp, hn, hrl, hd, ?_⟩
    rcases hd.kinds2 with rfl | ⟨c, hc, rfl⟩ | ⟨u, rfl, hu⟩
    · refine DeedO.good ?_
      walk_at "w"
      exact RetQ.here hQ
    · refine DeedO.x (XOut.caught nt fun e H' hx hle he => ?_)
      obtain ⟨T, h1, h2⟩ := hx
      refine ⟨c, none, T, h1, h2, HndW.hitAs (cX := 24) rfl (EvalW.global (PCx.glob (v := .ref 24) P (by kernel_rfl)) ⟨rfl, rfl⟩ rfl) (by rcases hc with rfl | rfl <;> kernel_rfl) ?_⟩
      walk_at "w"
      refine EvalW.list ?_
      walk_at "w"
      refine EvalW.callName (x := Str.ofString "isinstance") (PCx.blt P (by kernel_rfl) (by boot_fast)) (Plainly.builtin _) rfl ?_ (hp := rfl)
      walk_at "w"
      refine EvalW.global (PCx.glob (v := .ref 56) P (by kernel_rfl)) ?_ rfl
      walk_at "w"
      refine isiNo (C' := C) (by exact P.X) hc h1 (b := fun c => decide (c = 56)) (by kernel_rfl) (by kernel_rfl) ?_
      walk_at "w"
      refine EvalW.callName (x := Str.ofString "isinstance") (PCx.blt P (by kernel_rfl) (by boot_fast)) (Plainly.builtin _) rfl ?_ (hp := rfl)
      walk_at "w"
      refine EvalW.global (PCx.glob (v := .ref 68) P (by kernel_rfl)) ?_ rfl
      walk_at "w"
      refine isiNo (C' := C) (by exact P.X) hc h1 (b := fun c => decide (c = 68)) (by kernel_rfl) (by kernel_rfl) ?_
      walk_at "w"
      refine EvalW.callName (x := Str.ofString "isinstance") (PCx.blt P (by kernel_rfl) (by boot_fast)) (Plainly.builtin _) rfl ?_ (hp := rfl)
      walk_at "w"
      refine EvalW.global (PCx.glob (v := .ref 44) P (by kernel_rfl)) ?_ rfl
      walk_at "w"
      refine isiNo (C' := C) (by exact P.X) hc h1 (b := fun _ => false) (by kernel_rfl) (by kernel_rfl) ?_
      walk_at "w"
      refine ⟨by simp, fun a ha => ?_⟩
      have g1 := (Hp.set_ne (o := .list ([decide (c = 56), decide (c = 68), false].map V.bool)) (Hp.ne h1 ha)).trans h1
      have ga : (H'.set a (.list ([decide (c = 56), decide (c = 68), false].map V.bool))) a = some (.list ([decide (c = 56), decide (c = 68), false].map V.bool)) := Hp.set_self ..
      have gle : Hp.le H (H'.set a (.list ([decide (c = 56), decide (c = 68), false].map V.bool))) := fun b o e => (Hp.le_set ha) b o (hle b o e)
      walk_at "w"
      refine EvalW.callName (x := Str.ofString "isinstance") (PCx.blt P (by kernel_rfl) (by boot_fast)) (Plainly.builtin _) rfl ?_ (hp := rfl)
      walk_at "w"
      refine EvalW.global (PCx.blt P (by kernel_rfl) (by boot_fast)) ?_ rfl
      walk_at "w"
      refine isiNo (C' := C) (by exact P.X) hc g1 (b := fun _ => true) (by kernel_rfl) (by kernel_rfl) ?_
      walk_at "w"
      refine ite_f rfl ?_
      walk_at "w"
      refine ⟨_, MethIs.count ga, Plainly.builtin _, ?_⟩
      walk_at "w"
      refine CallW.countB ga ?_
      walk_at "w"
      refine ite_f (by rcases hc with rfl | rfl <;> rfl) ?_
      walk_at "w"
      refine ite_f rfl ?_
      walk_at "w"
      refine EvalW.callName (x := Str.ofString "isinstance") (PCx.blt P (by kernel_rfl) (by boot_fast)) (Plainly.builtin _) rfl ?_ (hp := rfl)
      walk_at "w"
      refine EvalW.global (PCx.glob (v := .ref 44) P (by kernel_rfl)) ?_ rfl
      walk_at "w"
      refine isiNo (C' := C) (by exact P.X) hc g1 (b := fun _ => false) (by kernel_rfl) (by kernel_rfl) ?_
      walk_at "w"
      refine ite_f rfl ?_
      walk_at "w"
      refine EvalW.list_fz ?_
      walk_at "w"
      refine ⟨by simp, ?_⟩
      walk_at "w"
      refine ⟨_, MethIs.index ga, Plainly.builtin _, ?_⟩
      walk_at "w"
      refine CallW.indexB (j := if c = 56 then 0 else 1) ga (by rcases hc with rfl | rfl <;> rfl) (by rcases hc with rfl | rfl <;> intro m hm <;> first | exact absurd hm (Nat.not_lt_zero _) | (cases m with | zero => rfl | succ m => exact absurd hm (Nat.not_lt.mpr (Nat.le_add_left 1 m)))) (by simp) ?_
      walk_at "w"
      refine SubW.list rfl (by omega) (by rcases hc with rfl | rfl <;> decide) (u := .str (Str.ofString (if c = 56 then "hand" else "letter"))) (by rcases hc with rfl | rfl <;> rfl) ?_
      walk_at "w"
      exact OnlyRet.here (RetQ.fz (Fz.drop gle) hQ)
    · refine DeedO.x (XOut.caught nt fun e H' hx hle he => ?_)
      obtain ⟨d, T, h1, h2, h3⟩ := hx
      refine ⟨44, some d, T, h1, h2, HndW.hitAs (cX := 24) rfl (EvalW.global (PCx.glob (v := .ref 24) P (by kernel_rfl)) ⟨rfl, rfl⟩ rfl) (by kernel_rfl) ?_⟩
      walk_at "w"
      refine EvalW.list ?_
      walk_at "w"
      refine EvalW.callName (x := Str.ofString "isinstance") (PCx.blt P (by kernel_rfl) (by boot_fast)) (Plainly.builtin _) rfl ?_ (hp := rfl)
      walk_at "w"
      refine EvalW.global (PCx.glob (v := .ref 56) P (by kernel_rfl)) ?_ rfl
      walk_at "w"
      refine isi44 (C' := C) (by exact P.X) h1 h3 (b := false) (by kernel_rfl) ?_
      walk_at "w"
      refine EvalW.callName (x := Str.ofString "isinstance") (PCx.blt P (by kernel_rfl) (by boot_fast)) (Plainly.builtin _) rfl ?_ (hp := rfl)
      walk_at "w"
      refine EvalW.global (PCx.glob (v := .ref 68) P (by kernel_rfl)) ?_ rfl
      walk_at "w"
      refine isi44 (C' := C) (by exact P.X) h1 h3 (b := false) (by kernel_rfl) ?_
      walk_at "w"
      refine EvalW.callName (x := Str.ofString "isinstance") (PCx.blt P (by kernel_rfl) (by boot_fast)) (Plainly.builtin _) rfl ?_ (hp := rfl)
      walk_at "w"
      refine EvalW.global (PCx.glob (v := .ref 44) P (by kernel_rfl)) ?_ rfl
      walk_at "w"
      refine isi44 (C' := C) (by exact P.X) h1 h3 (b := true) (by kernel_rfl) ?_
      walk_at "w"
      refine ⟨by simp, fun a ha => ?_⟩
      have g1 := (Hp.set_ne (o := .list ([false, false, true].map V.bool)) (Hp.ne h1 ha)).trans h1
      have g3 := (Hp.set_ne (o := .list ([false, false, true].map V.bool)) (Hp.ne h3 ha)).trans h3
      have ga : (H'.set a (.list ([false, false, true].map V.bool))) a = some (.list ([false, false, true].map V.bool)) := Hp.set_self ..
      have gle : Hp.le H (H'.set a (.list ([false, false, true].map V.bool))) := fun b o e => (Hp.le_set ha) b o (hle b o e)
      walk_at "w"
      refine EvalW.callName (x := Str.ofString "isinstance") (PCx.blt P (by kernel_rfl) (by boot_fast)) (Plainly.builtin _) rfl ?_ (hp := rfl)
      walk_at "w"
      refine EvalW.global (PCx.blt P (by kernel_rfl) (by boot_fast)) ?_ rfl
      walk_at "w"
      refine isi44 (C' := C) (by exact P.X) g1 g3 (b := true) (by kernel_rfl) ?_
      walk_at "w"
      refine ite_f rfl ?_
      walk_at "w"
      refine ⟨_, MethIs.count ga, Plainly.builtin _, ?_⟩
      walk_at "w"
      refine CallW.countB ga ?_
      walk_at "w"
      refine ite_f rfl ?_
      walk_at "w"
      refine ite_f rfl ?_
      walk_at "w"
      refine EvalW.callName (x := Str.ofString "isinstance") (PCx.blt P (by kernel_rfl) (by boot_fast)) (Plainly.builtin _) rfl ?_ (hp := rfl)
      walk_at "w"
      refine EvalW.global (PCx.glob (v := .ref 44) P (by kernel_rfl)) ?_ rfl
      walk_at "w"
      refine isi44 (C' := C) (by exact P.X) g1 g3 (b := true) (by kernel_rfl) ?_
      walk_at "w"
      refine ite_t rfl ?_
      walk_at "w"
      refine AttrW.exc (K := KBx C) (name := Str.ofString "at") (by exact P.X) (ok44 _) g1 g3 (v := u) rfl (by kernel_rfl) hu ?_
      walk_at "w"
      refine ⟨?_, by simp⟩
      walk_at "w"
      exact OnlyRet.here (RetQ.fz (Fz.drop gle) hQ)
noncomputable def S_said (cH cN : Addr) : SpecT := fun args Q R H => ∃ (way kd : Int) (w v : V) (hl : List V) (N : NAd) (As : Nat → HA) (n asker : Nat) (M : NetM) (o : Option XK), args = [.int way, .int kd, w, .ref N.i, v, .lst hl] ∧ NetRep cH cN H N As n asker M ∧ n ≤ 1000 ∧ M.row.length ≤ 40000 ∧ DeedR n M.row.length kd w v hl o ∧ (∀ b, NTb H b) ∧ Q (outV o) H
set_option maxHeartbeats 8000000 in
theorem said_ok {l : List Env} (P : PCx C (KBx C)) (hC : C.frs = some l) (k : Nat) : FnOK C (k + 10) (.ref 287) (S_said 118 248) := by
  refine FnOK.ofSX (K := KBx C) (Str.ofString "_law_way" :: [Str.ofString "_law_kind", Str.ofString "_law_waits", Str.ofString "_law_net", Str.ofString "_law_wrong_here", Str.ofString "_law_hands"]) P hC rfl rfl (by kernel_rfl) ?_ (by kernel_rfl) (by kernel_rfl) ?_
  · intro vals h
    rcases vals with _ | ⟨a, _ | ⟨b, _ | ⟨c, _ | ⟨d, _ | ⟨e, _ | ⟨f, _ | ⟨g, t⟩⟩⟩⟩⟩⟩⟩ <;> simp at h
    rfl
  · rintro args Q R H ⟨way, kd, w, v, hl, N, As, n, asker, M, o, rfl, Rp, hn, hrl, hd, nt, hQ⟩
    refine ⟨rfl, fun L P hfr hL => ?_⟩
    walk_at "w"
    refine ite_w (fun h => ?_) fun h => ?_
    · walk_at "w"
      refine (by_name_ok P hfr k).call ⟨kd, w, v, hl, N, As, n, asker, M, o, rfl, Rp, hn, hrl, hd, nt, ?_⟩
      walk_at "w"
      exact RetQ.here hQ
    · walk_at "w"
      refine (by_base_ok P hfr k).call ⟨kd, w, v, hl, N, As, n, asker, M, o, rfl, Rp, hn, hrl, hd, nt, ?_⟩
      walk_at "w"
      exact RetQ.here hQ
section
section
variable {C : Cx} {k : Nat} {Q R : V → Hp → Prop} {H : Hp}
theorem CmpW.inTup {n : Nat} {v : V} {l : List V} (hv : Dt n v) (hl : ∀ x ∈ l, Dt n x) (hn : n ≤ 64) (h : Q (.bool ((datL l).any fun y => PyData.eqv y v.dat)) H) : CmpW C k .In v (.tup l) Q R H := fun A a s x y S r1 r2 => by
  obtain ⟨as, ra⟩ := VRel.reads r1 hv.pure
  obtain ⟨bs, rb⟩ := VRel.reads r2 (show (V.tup l).pure = true from (dtL hl).1)
  refine PySem.SeqAt.in_tuple_reads rb ra (dtL hl).2.1 hv.lay (room_in_shaped (hv.ok hn) (by have := a.units; omega)) ?_
  exact Post.here h S (.bool _) rfl
theorem CmpW.neNil {n : Nat} {l : List V} (hl : ∀ x ∈ l, Dt n x) (hn : n ≤ 50) (h : Q (.bool (!l.isEmpty)) H) : CmpW C k .NotEq (.lst l) (.lst []) Q R H := by
  have h1 := Dt.lst hl
  have h0 : Dt (n + 1) (.lst []) := Dt.lst fun _ q => by cases q
  refine CmpW.ne ?_ ?_ ?_ ?_ ?_ <;> simp only [h1.see, h0.see]
  · exact h1.pure
  · exact h0.pure
  · exact h1.ok (by omega)
  · exact h0.ok (by omega)
  · have : PyData.eqv (V.lst l).dat (V.lst []).dat = l.isEmpty := by
      cases l <;> simp [V.dat, datL, PyData.eqv, PyData.eqvAll]
    rw [this]; exact h
end
/- no traceback entries -/
noncomputable def Hp.noTb (H : Hp) : Hp := fun b => match H b with
  | some (.tb _) => none
  | o => o
theorem Hp.noTb_le (H : Hp) : Hp.le H.noTb H := fun b o e => by
  unfold Hp.noTb at e
  split at e
  · cases e
  · exact e
theorem Hp.noTb_nt (H : Hp) : ∀ b, NTb H.noTb b := fun b fl e => by
  unfold Hp.noTb at e
  split at e
  · cases e
  · rename_i h; exact h fl e
theorem Hp.noTb_keep {H : Hp} {b : Addr} {o : O} (e : H b = some o) (ho : ∀ fl, o ≠ .tb fl) : H.noTb b = some o := by
  unfold Hp.noTb
  split
  · rename_i fl q; rw [q] at e; exact absurd (Option.some.inj e).symm (ho fl)
  · exact e
theorem NetRep.noTb {cH cN : Addr} {H : Hp} {N : NAd} {As : Nat → HA} {n asker : Nat} {M : NetM} (r : NetRep cH cN H N As n asker M) : NetRep cH cN H.noTb N As n asker M :=
  ⟨Hp.noTb_keep r.i (by simp), Hp.noTb_keep r.d (by simp), Hp.noTb_keep r.row (by simp), fun k hk => let q := r.hands k hk; ⟨Hp.noTb_keep q.i (by simp), Hp.noTb_keep q.d (by simp), Hp.noTb_keep q.a (by simp), Hp.noTb_keep q.h (by simp)⟩, r.sd, r.nd, r.na⟩
theorem ExecsW.le {C : Cx} {k : Nat} {env : Env} {sts : List Stmt} {QS : Fl → Rho → Hp → Prop} {RS : V → Rho → Hp → Prop} {ρ : Rho} {H H1 : Hp} (hle : Hp.le H1 H) (h : ExecsW C k env sts QS RS ρ H1) : ExecsW C k env sts QS RS ρ H := fun A av s S => by
  have EV := ExtV.of_le hle s.heap
  obtain ⟨m, cm, F, rr⟩ := S.frm
  have S' : SimL C env ρ H1 s := ⟨S.sim.le hle, S.kind, S.globals, S.builtins, m, cm, ⟨F.ns, F.cell, hle.none _ F.own, fun n c e => hle.none _ (F.ownc n c e), F.above, F.abovec, F.apart⟩, fun y v e => (rr y v e).extV EV⟩
  have back : ∀ {H' : Hp} {h' : Heap}, ExtF env H1 s.heap H' h' → ExtF env H s.heap H' h' := fun E => ⟨fun b o e n => E.keep b o e (hle.none _ n), fun b o e n => E.grow b o e (hle.none _ n), E.live⟩
  refine wpAny_mono (h A av s S') ?_ ?_
  · rintro f s' ⟨fl, ρ', H', q, r, S1, E1⟩
    exact ⟨fl, ρ', H', q, r, S1, back E1⟩
  · rintro f s' ⟨v, ρ', H', q, r, S1, E1⟩
    exact ⟨v, ρ', H', q, r, S1, back E1⟩

/- the things of law 11 -/
noncomputable def wrongL (s : Int) : List V := [.int s, .int (-1), .bool true, .bool false, .none, .str (Str.ofString "0"), .int (10 ^ 30), .int (-s), .tup [.int 0]]
theorem wrong_no {s : Nat} (hs : 0 < s) (hs' : s ≤ 40) {v : V} (h : v ∈ wrongL s) : isPlaceV v s = false ∧ (∀ H, ∃ T, tyOf H v = some T) ∧ Dt 3 v ∧ (v = .int s ∨ ∀ rl : Nat, rl ≤ 40000 → isPlaceV v rl = false) := by
  simp only [wrongL, List.mem_cons, List.not_mem_nil, or_false] at h
  rcases h with rfl | rfl | rfl | rfl | rfl | rfl | rfl | rfl | rfl
  · exact ⟨by simp [isPlaceV], fun _ => ⟨_, rfl⟩, .int _, .inl rfl⟩
  · exact ⟨by simp [isPlaceV], fun _ => ⟨_, rfl⟩, .int _, .inr fun _ _ => by simp [isPlaceV]⟩
  · exact ⟨rfl, fun _ => ⟨_, rfl⟩, .bool _, .inr fun _ _ => rfl⟩
  · exact ⟨rfl, fun _ => ⟨_, rfl⟩, .bool _, .inr fun _ _ => rfl⟩
  · exact ⟨rfl, fun _ => ⟨_, rfl⟩, .none, .inr fun _ _ => rfl⟩
  · exact ⟨rfl, fun _ => ⟨_, rfl⟩, .str (by decide +kernel), .inr fun _ _ => rfl⟩
  · exact ⟨by simp [isPlaceV]; omega, fun _ => ⟨_, rfl⟩, .int _, .inr fun rl h => by simp [isPlaceV]; omega⟩
  · exact ⟨by simp [isPlaceV]; omega, fun _ => ⟨_, rfl⟩, .int _, .inr fun rl h => by simp [isPlaceV]; omega⟩
  · exact ⟨rfl, fun _ => ⟨_, rfl⟩, (Dt.tup (n := 2) fun x hx => by
      simp only [List.mem_cons, List.not_mem_nil, or_false] at hx
      subst hx; exact .int _), .inr fun _ _ => rfl⟩
noncomputable def seenV (n asker : Nat) (M : NetM) : V := .tup [.lst (M.row.map lv), .int ((M.many : Nat) : Int), rungV (M.hands asker), .lst ((shownM n M).map nv), .lst ((List.range n).map fun k => .int (M.hands k).owed), .lst ((List.range n).map fun k => ov (M.hands k).waker)]
theorem Dt.lv {n : Nat} (t : Lt) : Dt (n + 5) (lv t) := ⟨lv_pure t, (lv_lay t).1, Nat.le_trans (lv_lay t).2 (by omega)⟩
theorem Dt.ov {n : Nat} (o : Option Nat) : Dt n (ov o) := by cases o <;> first | exact .none | exact .int _
theorem seenV_dt (n asker : Nat) (M : NetM) : Dt 8 (seenV n asker M) := by
  refine (Dt.tup (n := 7) fun x hx => ?_)
  simp only [List.mem_cons, List.not_mem_nil, or_false] at hx
  rcases hx with rfl | rfl | rfl | rfl | rfl | rfl
  · exact Dt.lst (n := 6) fun y hy => by obtain ⟨t, _, rfl⟩ := List.mem_map.mp hy; exact Dt.lv t
  · exact .int _
  · unfold rungV; split
    · exact .none
    · exact .bool _
  · exact Dt.lst (n := 6) fun y hy => by obtain ⟨t, _, rfl⟩ := List.mem_map.mp hy; exact .int _
  · exact Dt.lst (n := 6) fun y hy => by obtain ⟨t, _, rfl⟩ := List.mem_map.mp hy; exact .int _
  · exact Dt.lst (n := 6) fun y hy => by obtain ⟨t, _, rfl⟩ := List.mem_map.mp hy; exact Dt.ov _
noncomputable def sizeB (c : Int) : Nat := if c / 6 % 4 = 1 then (1 + c / 24 % 40).toNat else (1 + c % 6).toNat
theorem sizeB_range (c : Int) : 0 < sizeB c ∧ sizeB c ≤ 40 := by unfold sizeB; split <;> omega
noncomputable def chainW (c : Int) (s : Nat) : List Wt := (List.range s).map fun (k : Nat) => some (((k : Int) + c) % 2 == 0, [(((k : Int) + 1) % (s : Int)).toNat])
theorem chainW_length (c : Int) (s : Nat) : (chainW c s).length = s := by simp [chainW]
theorem chainW_ok (c : Int) (s : Nat) (h0 : 0 < s) (h1 : s ≤ 40) : WsOk (chainW c s) := by
  refine ⟨by rw [chainW_length]; exact h0, by rw [chainW_length]; exact h1, ?_⟩
  rw [chainW_length]
  intro w hw
  obtain ⟨k, _, rfl⟩ := List.mem_map.mp hw
  refine ⟨by simp, by simp, ?_, by simp⟩
  intro x hx
  simp only [List.mem_cons, List.not_mem_nil, or_false] at hx
  have h2 : 0 ≤ ((k : Int) + 1) % (s : Int) := Int.emod_nonneg _ (by omega)
  have h3 : ((k : Int) + 1) % (s : Int) < s := Int.emod_lt_of_pos _ (by omega)
  omega
theorem WsOk.setN {W : List Wt} (h : WsOk W) (i : Nat) : WsOk (W.set i none) := by
  obtain ⟨h1, h2, h3⟩ := h
  refine ⟨by simpa using h1, by simpa using h2, ?_⟩
  intro x hx
  rw [List.length_set]
  rcases List.mem_or_eq_of_mem_set hx with q | rfl
  · exact h3 x q
  · trivial
theorem WOk.mono {m m' : Nat} {w : Wt} (h : WOk m w) (hm : m ≤ m') : WOk m' w := by
  cases w with
  | none => trivial
  | some bl => obtain ⟨b, l⟩ := bl; exact ⟨h.1, h.2.1, fun x hx => Nat.lt_of_lt_of_le (h.2.2.1 x hx) hm, h.2.2.2⟩
theorem good_need {W : List Wt} (h : WsOk W) (H : Hp) : NeedR H (.lst (W.map wv)) none := by
  obtain ⟨h1, h2, h3⟩ := h
  refine .good (by simpa using h1) (by simpa using h2) fun v hv => ?_
  obtain ⟨w, hw, rfl⟩ := List.mem_map.mp hv
  exact ⟨w, rfl, by rw [List.length_map]; exact h3 w hw⟩
noncomputable def badL (W : List Wt) (s : Nat) : List V := [.tup (W.map wv), .lst (W.map wv ++ [.int 0]), .lst (.tup [sAll, .lst [.int s]] :: (W.map wv).drop 1), .lst []]
noncomputable def atL (s : Nat) : List V := [.none, .int s, .int 0, .none]
noncomputable def atB (s : Nat) (pk : Int) : V := if pk = 1 ∧ s = 40 then .none else pick (atL s) pk
theorem bad_need {W : List Wt} (h : WsOk W) {pk : Int} (h0 : 0 ≤ pk) (h4 : pk < 4) (H : Hp) : NeedR H (pick (badL W W.length) pk) (some (atB W.length pk)) := by
  obtain ⟨h1, h2, h3⟩ := h
  have : pk = 0 ∨ pk = 1 ∨ pk = 2 ∨ pk = 3 := by omega
  rcases this with rfl | rfl | rfl | rfl
  · exact .kind (T := "tuple") rfl (by decide +kernel)
  · by_cases q : W.length = 40
    · have e : atB W.length 1 = .none := by unfold atB; rw [if_pos ⟨rfl, q⟩]
      rw [e]
      exact .size (.inr (by simp; omega)) (by simp; omega)
    · have e : atB W.length 1 = .int ((W.length : Nat) : Int) := by unfold atB; rw [if_neg (fun z => q z.2)]; rfl
      rw [e]
      show NeedR H (.lst (W.map wv ++ [.int 0])) _
      refine .at (v := .int 0) (by simp; omega) (by simp) (fun j hj u hu => ?_) (.kind (T := "int") rfl (by decide +kernel) rfl trivial)
      rw [List.getElem?_append_left (by simpa using hj)] at hu
      obtain ⟨w, hw, rfl⟩ := List.mem_map.mp (List.mem_of_getElem? hu)
      exact ⟨w, rfl, (h3 w hw).mono (by simp)⟩
  · have e : atB W.length 2 = .int ((0 : Nat) : Int) := by unfold atB; rw [if_neg (fun z => absurd z.1 (by decide))]; rfl
    rw [e]
    show NeedR H (.lst (.tup [sAll, .lst [.int ((W.length : Nat) : Int)]] :: (W.map wv).drop 1)) _
    refine .at (v := .tup [sAll, .lst [.int ((W.length : Nat) : Int)]]) (by simp; omega) rfl (fun j hj => absurd hj (Nat.not_lt_zero _)) ?_
    refine .hands (.inl rfl) (by simp) (by simp) (fun x hx => ?_) rfl (okD_ints [((W.length : Nat) : Int)]) (.odd (by simp [isPlaceV]; omega))
    simp only [List.mem_cons, List.not_mem_nil, or_false] at hx
    subst hx; exact ⟨_, rfl⟩
  · exact .size (.inl rfl) (by simp)
noncomputable def dueL : List V := [.str (Str.ofString "hand"), .str (Str.ofString "hand"), .str (Str.ofString "hand"), .str (Str.ofString "hand"), .str (Str.ofString "hand"), .str (Str.ofString "letter"), .str (Str.ofString ""), .str (Str.ofString "")]
theorem dueL_dt {n : Nat} {v : V} (h : v ∈ dueL) : Dt n v := by
  simp only [dueL, List.mem_cons, List.not_mem_nil, or_false] at h
  rcases h with rfl | rfl | rfl | rfl | rfl | rfl | rfl | rfl <;> exact .str (by decide +kernel)
theorem deed_good {rl i : Nat} (hi : i < 8) {W : List Wt} (hW : WsOk W) {v : V} (hT : ∀ H, ∃ T, tyOf H v = some T) (hv5 : i = 5 → isPlaceV v rl = false) (hv : i ≠ 5 → isPlaceV v W.length = false) {hl : List V} (hz : hl.length ≤ 100) (hb : BadHs W.length hl) :
    ∃ o, DeedR W.length rl (i : Int) (.lst (W.map wv)) v hl o ∧ outV o = pick dueL (i : Int) := by
  have hl1 : (W.map wv).length = W.length := by simp
  have hz' := hW.2.1
  have : i = 0 ∨ i = 1 ∨ i = 2 ∨ i = 3 ∨ i = 4 ∨ i = 5 ∨ i = 6 ∨ i = 7 := by
    match i, hi with
    | 0, _ => exact .inl rfl
    | 1, _ => exact .inr (.inl rfl)
    | 2, _ => exact .inr (.inr (.inl rfl))
    | 3, _ => exact .inr (.inr (.inr (.inl rfl)))
    | 4, _ => exact .inr (.inr (.inr (.inr (.inl rfl))))
    | 5, _ => exact .inr (.inr (.inr (.inr (.inr (.inl rfl)))))
    | 6, _ => exact .inr (.inr (.inr (.inr (.inr (.inr (.inl rfl))))))
    | 7, _ => exact .inr (.inr (.inr (.inr (.inr (.inr (.inr rfl))))))
    | n + 8, hi => exact absurd hi (Nat.not_lt.mpr (Nat.le_add_left 8 n))
  rcases this with rfl | rfl | rfl | rfl | rfl | rfl | rfl | rfl
  · exact ⟨_, .net1 (good_need hW) (by omega) hT (by rw [hl1]; exact hv (by decide)), rfl⟩
  · exact ⟨_, .shows1 (good_need hW) (by omega) hz (by rw [hl1]; exact hb), rfl⟩
  · exact ⟨_, .hand (.inl rfl) hT (hv (by decide)), rfl⟩
  · exact ⟨_, .hand (.inr (.inl rfl)) hT (hv (by decide)), rfl⟩
  · exact ⟨_, .hand (.inr (.inr rfl)) hT (hv (by decide)), rfl⟩
  · exact ⟨_, .bring hT (hv5 rfl), rfl⟩
  · exact ⟨_, .good (.inl rfl) hW, rfl⟩
  · exact ⟨_, .good (.inr rfl) hW, rfl⟩
theorem deed_bad {n rl i : Nat} (hi : i = 0 ∨ i = 1 ∨ i = 6 ∨ i = 7) {w v u : V} {hl : List V} (h : ∀ H, NeedR H w (some u)) : DeedR n rl (i : Int) w v hl (some (.bad u)) := by
  rcases hi with rfl | rfl | rfl | rfl
  · exact .net0 h
  · exact .shows0 h
  · exact .bad (.inl rfl) h
  · exact .bad (.inr rfl) h
theorem ins_badHs {s : Nat} {hs : List Nat} (hlt : ∀ x ∈ hs, x < s) {j : Nat} (hj : j ≤ hs.length) {v : V} (hv : isPlaceV v s = false) (hT : ∀ H, ∃ T, tyOf H v = some T) : BadHs s (insV (natV hs) j v) := by
  refine ⟨j, v, ?_, hv, hT, fun i hi => ?_⟩
  · unfold insV
    rw [List.getElem?_append_right (by rw [List.length_take, natV_length]; omega), List.length_take, natV_length, Nat.min_eq_left hj]
    simp
  · unfold insV
    rw [List.getElem?_append_left (by rw [List.length_take, natV_length]; omega), List.getElem?_take_of_lt hi]
    have : i < hs.length := by omega
    refine ⟨hs[i], ?_, hlt _ (List.getElem_mem this)⟩
    simp [natV, this]
theorem in4 {i : Nat} (hi : i < 8) : ((datL [V.int 0, V.int 1, V.int 6, V.int 7]).any fun y => PyData.eqv y (V.int (i : Int)).dat) = true → i = 0 ∨ i = 1 ∨ i = 6 ∨ i = 7 := by
  intro h
  match i, hi, h with
  | 0, _, _ => exact .inl rfl
  | 1, _, _ => exact .inr (.inl rfl)
  | 2, _, h => exact absurd h (by decide)
  | 3, _, h => exact absurd h (by decide)
  | 4, _, h => exact absurd h (by decide)
  | 5, _, h => exact absurd h (by decide)
  | 6, _, _ => exact .inr (.inr (.inl rfl))
  | 7, _, _ => exact .inr (.inr (.inr rfl))
  | n + 8, hi, _ => exact absurd hi (Nat.not_lt.mpr (Nat.le_add_left 8 n))
end
variable {C : Cx}
noncomputable def S_wrong : SpecT := fun args Q R H => ∃ (p m : Int) (s : Nat), args = [.int p, .int s, .int m] ∧ Q (pick (wrongL s) (p % 9)) H
noncomputable def S_seen (cH cN : Addr) : SpecT := fun args Q R H => ∃ (N : NAd) (As : Nat → HA) (n asker : Nat) (M : NetM), args = [.ref N.i, .int ((n : Nat) : Int)] ∧ NetRep cH cN H N As n asker M ∧ asker < n ∧ n ≤ 900 ∧ M.row.length ≤ 40000 ∧ Q (seenV n asker M) H
set_option maxHeartbeats 4000000 in
theorem wrong_ok (P : PCx C (KBx C)) (k : Nat) : FnOK C (k + 1) (.ref 299) S_wrong := by
  refine FnOK.ofS (K := KBx C) [Str.ofString "_law_pick", Str.ofString "_law_size", Str.ofString "_law_many"] P rfl rfl (by kernel_rfl) ?_ (by kernel_rfl) (by kernel_rfl) ?_
  · intro vals h
    rcases vals with _ | ⟨a, _ | ⟨b, _ | ⟨c, _ | ⟨d, t⟩⟩⟩⟩ <;> simp at h
    rfl
  · rintro args Q R H ⟨p, m, s, rfl, hQ⟩
    refine ⟨rfl, fun L P => ?_⟩
    walk_at "w"
    refine EvalW.list_fz ?_
    walk_at "w"
    refine EvalW.neg ?_
    walk_at "w"
    refine ⟨1, rfl, ?_⟩
    walk_at "w"
    refine BinW.pow (by decide) (by decide) (by decide +kernel) ?_
    rw [show (10 : Int) ^ (30 : Int).toNat = 10 ^ 30 from rfl]
    walk_at "w"
    refine EvalW.neg ?_
    walk_at "w"
    refine ⟨(s : Int), rfl, ?_⟩
    walk_at "w"
    refine ⟨?_, by simp⟩
    walk_at "w"
    refine ⟨by simp, ?_⟩
    walk_at "w"
    refine SubW.list rfl (by omega) (by omega) (pick_get (l := wrongL s) (by omega) (by show p % 9 < ((9 : Nat) : Int); omega)) ?_
    walk_at "w"
    exact RetQ.here hQ
set_option maxHeartbeats 4000000 in
theorem seen_ok (P : PCx C (KBx C)) (k : Nat) : FnOK C (k + 4) (.ref 292) (S_seen 118 248) := by
  have hc := handC C
  have hN := netC C
  refine FnOK.ofS (K := KBx C) [Str.ofString "_law_net", Str.ofString "_law_size"] P rfl rfl (by kernel_rfl) ?_ (by kernel_rfl) (by kernel_rfl) ?_
  · intro vals h
    rcases vals with _ | ⟨a, _ | ⟨b, _ | ⟨c, t⟩⟩⟩ <;> simp at h
    rfl
  · rintro args Q R H ⟨N, As, n, asker, M, rfl, Rp, has, hn, hrl, hQ⟩
    refine ⟨rfl, fun L P => ?_⟩
    walk_at "w"
    refine ExecW.assign_compP (gN fun j => some (V.int (M.hands j).owed)) rfl rfl P.hd rfl ?_
    refine IterE.range (P.blt (by kernel_rfl) (by boot_fast)) rfl ?_
    walk_at "w"
    refine ⟨_, rfl, by omega, by omega, ?_⟩
    rw [Int.toNat_natCast]
    refine ⟨by rw [ints_length]; omega, fun _ _ => trivial, ?_, ?_⟩
    · intro v hv H' hle
      rw [rangeV_nv] at hv
      obtain ⟨x, hx, rfl⟩ := List.mem_map.mp hv
      have hx : x < n := by simpa using hx
      have Rp1 := Rp.le hle
      refine PureStep.map rfl fun L' => ?_
      simp only [nv]
      walk_at "w"
      refine ⟨_, Rp1.meth P hN (f := 231) (by with_unfolding_all rfl) (by kernel_rfl) (by kernel_rfl), Plainly.ofS P.X rfl, ?_⟩
      walk_at "w"
      refine (owed_by_ok P _).call ⟨N, As, n, asker, M, x, rfl, Rp1, hx, by omega, ?_⟩
      exact ⟨rfl, by rw [gN_nv]⟩
    rw [rangeV_nv, fm_gN, fm_map]
    walk_at "w"
    refine ⟨_, Rp.meth P hN (f := 198) (by with_unfolding_all rfl) (by kernel_rfl) (by kernel_rfl), Plainly.ofS P.X rfl, ?_⟩
    walk_at "w"
    refine (letters_ok P _).call ⟨N, As, n, asker, M, rfl, Rp, by omega, .inl ?_⟩
    walk_at "w"
    refine ⟨_, Rp.meth P hN (f := 212) (by with_unfolding_all rfl) (by kernel_rfl) (by kernel_rfl), Plainly.ofS P.X rfl, ?_⟩
    walk_at "w"
    refine (sent_ok P _).call ⟨N, As, n, asker, M, rfl, Rp, ?_⟩
    walk_at "w"
    refine ⟨_, Rp.meth P hN (f := 219) (by with_unfolding_all rfl) (by kernel_rfl) (by kernel_rfl), Plainly.ofS P.X rfl, ?_⟩
    walk_at "w"
    refine (rung_ok P _).call ⟨N, As, n, asker, M, rfl, Rp, has, by omega, ?_⟩
    walk_at "w"
    refine ⟨_, Rp.meth P hN (f := 224) (by with_unfolding_all rfl) (by kernel_rfl) (by kernel_rfl), Plainly.ofS P.X rfl, ?_⟩
    walk_at "w"
    refine (shown_ok P _).call ⟨N, As, n, asker, M, rfl, Rp, by omega, .inl ?_⟩
    walk_at "w"
    refine EvalW.compP (gN fun j => some (ov (M.hands j).waker)) rfl P.hd rfl ?_
    refine IterE.range (P.blt (by kernel_rfl) (by boot_fast)) rfl ?_
    walk_at "w"
    refine ⟨_, rfl, by omega, by omega, ?_⟩
    rw [Int.toNat_natCast]
    refine ⟨by rw [ints_length]; omega, fun _ _ => trivial, ?_, ?_⟩
    · intro v hv H' hle
      rw [rangeV_nv] at hv
      obtain ⟨x, hx, rfl⟩ := List.mem_map.mp hv
      have hx : x < n := by simpa using hx
      have Rp1 := Rp.le hle
      refine PureStep.map rfl fun L' => ?_
      simp only [nv]
      walk_at "w"
      refine ⟨_, Rp1.meth P hN (f := 238) (by with_unfolding_all rfl) (by kernel_rfl) (by kernel_rfl), Plainly.ofS P.X rfl, ?_⟩
      walk_at "w"
      refine (waker_of_ok P _).call ⟨N, As, n, asker, M, x, rfl, Rp1, hx, by omega, ?_⟩
      exact ⟨rfl, by rw [gN_nv]⟩
    rw [rangeV_nv, fm_gN, fm_map]
    walk_at "w"
    refine ⟨?_, by simp⟩
    walk_at "w"
    exact RetQ.here hQ
variable {C : Cx}
noncomputable def S_law11 : SpecT := fun args Q R H => ∃ ns : List Int, args = [.lst (ns.map .int)] ∧ ns.length ≤ 100 ∧ ∀ H', Q (.bool true) H'
theorem hands_lt {s : Nat} (p : Nat → Bool) : ∀ x ∈ (List.range s).filter p, x < s := fun x hx => by
  have := (List.mem_filter.mp hx).1; simpa using this
theorem hands_len {s : Nat} (p : Nat → Bool) : ((List.range s).filter p).length ≤ s := by
  have := List.length_filter_le p (List.range s); simpa using this
theorem bring_ge (M : NetM) (p : Nat) : M.row.length ≤ (bringM M p).1.row.length + 1 := by
  unfold bringM
  split
  · exact Nat.le_succ _
  · have h1 := List.length_eraseIdx_le M.row p
    show M.row.length ≤ (M.row.eraseIdx p ++ _).length + 1
    rw [List.length_append, List.length_eraseIdx]
    split <;> omega
set_option maxHeartbeats 16000000 in
theorem law_ok {l : List Env} (P : PCx C (KBx C)) (hC : C.frs = some l) (k : Nat) : FnOK C (k + 11) (.ref 304) S_law11 := by
  have hc := handC C
  have hN := netC C
  refine FnOK.ofSX (K := KBx C) [Str.ofString "_law_script"] P hC rfl rfl (by kernel_rfl) ?_ (by kernel_rfl) (by kernel_rfl) ?_
  · intro vals h
    rcases vals with _ | ⟨a, _ | ⟨b, t⟩⟩ <;> simp at h
    rfl
  · rintro args Q R H ⟨ns, rfl, hn, hQ⟩
    refine ⟨rfl, fun L P hfr hL => ?_⟩
    walk_at "w"
    refine (cell_ok P _).call ⟨ns, 0, rfl, by omega, hn, ?_⟩
    have ⟨hs0, hs1⟩ := sizeB_range (cellV ns 0)
    generalize hcell : cellV ns 0 = cell at hs0 hs1
    refine Cont.next (ExecsW.cons ?_)
    walk_at "v"
    walk_at "v"
    walk_at "v"
    walk_at "v"
    walk_at "v"
    walk_at "v"
    walk_at "v"
    walk_at "v"
    refine Cont.next (ExecsW.seq (fun l H' => H' = H ∧ l = [(Str.ofString "_law_script", V.lst (ns.map .int)), (Str.ofString "_law_cell", V.int cell), (Str.ofString "_law_size", V.int (sizeB cell))]) ?_ ?_)
    · walk_at "w"
      unfold sizeB
      refine ite_w (fun h => ?_) fun h => ?_
      · have h : cell / 6 % 4 = 1 := by simpa using h
        rw [if_pos h]
        walk_at "w"
        refine ⟨_, ⟨rfl, rfl⟩, rfl, rfl, ?_, trivial⟩
        show some (V.int _) = some (V.int _)
        rw [Int.toNat_of_nonneg (by omega)]
      · have h : ¬ cell / 6 % 4 = 1 := by simpa using h
        rw [if_neg h]
        walk_at "w"
        refine ⟨_, ⟨rfl, rfl⟩, rfl, rfl, ?_, trivial⟩
        show some (V.int _) = some (V.int _)
        rw [Int.toNat_of_nonneg (by omega)]
    rintro l H0 ⟨rfl, rfl⟩
    generalize sizeB cell = s at hs0 hs1
    walk_at "w"
    refine ExecW.assign_compO (gN fun (k : Nat) => some (wv (some (((k : Int) + cell) % 2 == 0, [(((k : Int) + 1) % (s : Int)).toNat])))) rfl rfl P.hd rfl ?_
    refine IterE.range (P.blt (by kernel_rfl) (by boot_fast)) rfl ?_
    walk_at "w"
    refine ⟨_, rfl, by omega, by omega, ?_⟩
    simp only [Int.toNat_natCast]
    refine ⟨by rw [ints_length]; omega, fun _ _ => trivial, ?_, fun a ha => ?_⟩
    · intro v hv H' hle
      rw [rangeV_nv] at hv
      obtain ⟨x, hx, rfl⟩ := List.mem_map.mp hv
      refine PureStep.map rfl fun L' => ?_
      simp only [nv]
      walk_at "w"
      refine EvalW.list_fz ?_
      walk_at "w"
      refine ⟨by simp, ?_⟩
      walk_at "w"
      refine SubW.list rfl (by omega) (by omega) (u := .str (Str.ofString (if (((x : Int) + cell) % 2 == 0) = true then "all" else "any"))) ?_ ?_
      · have : ((x : Int) + cell) % 2 = 0 ∨ ((x : Int) + cell) % 2 = 1 := by omega
        rcases this with e | e <;> rw [e] <;> rfl
      walk_at "w"
      refine EvalW.list_fz ?_
      walk_at "w"
      refine ⟨by simp, ?_⟩
      walk_at "w"
      refine ⟨?_, by simp⟩
      refine ⟨rfl, ?_⟩
      rw [gN_nv]
      have : ((((x : Int) + 1) % (s : Int)).toNat : Int) = ((x : Int) + 1) % (s : Int) := Int.toNat_of_nonneg (Int.emod_nonneg _ (by omega))
      simp only [wv, List.map_cons, List.map_nil, nv, this]
    rw [rangeV_nv, fm_gN, fm_map]
    rw [show (List.range s).map (fun (k : Nat) => wv (some (((k : Int) + cell) % 2 == 0, [(((k : Int) + 1) % (s : Int)).toNat]))) = (chainW cell s).map wv by unfold chainW; rw [List.map_map]; rfl]
    have hWl := chainW_length cell s
    have hWok := chainW_ok cell s hs0 hs1
    generalize chainW cell s = W at hWl hWok
    refine Cont.next (ExecsW.seq (fun l H' => ∃ W : List Wt, WsOk W ∧ W.length = s ∧ H' a = some (.list (W.map wv)) ∧ l = [(Str.ofString "_law_script", V.lst (ns.map .int)), (Str.ofString "_law_size", V.int s), (Str.ofString "_law_waits", V.ref a)]) ?_ ?_)
    · walk_at "w"
      refine (cell_ok P _).call ⟨ns, 1, rfl, by omega, hn, ?_⟩
      walk_at "w"
      refine ite_w (fun h => ?_) fun h => ?_
      · walk_at "w"
        refine SetW.list (Hp.set_self ..) (by omega) (by simp only [List.length_map]; omega) (by simp only [List.length_map]; omega) ?_
        walk_at "w"
        refine ⟨_, ⟨W.set ((s : Int) - 1).toNat none, hWok.setN _, by simpa using hWl, by rw [Hp.set_self, List.map_set]; rfl, rfl⟩, rfl, rfl, rfl, trivial⟩
      · walk_at "w"
        exact ⟨_, ⟨W, hWok, hWl, Hp.set_self .., rfl⟩, rfl, rfl, rfl, trivial⟩
    clear hWl hWok W
    rintro l H1 ⟨W, hWok, hWl, g1, rfl⟩
    subst hWl
    have hW1k : W.length ≤ 1000 := Nat.le_trans hs1 (by decide)
    have hW9 : W.length ≤ 900 := Nat.le_trans hs1 (by decide)
    have hWm : (W.map wv).length ≤ 1000 := by rw [List.length_map]; exact hW1k
    refine ExecsW.freeze (x := Str.ofString "_law_waits") rfl g1 ?_
    generalize H1.del a = H2
    clear g1 ha
    walk_at "w"
    refine (cell_ok P _).call ⟨ns, 2, rfl, by omega, hn, ?_⟩
    walk_at "w"
    refine (wrong_ok P _).call ⟨_, _, W.length, rfl, ?_⟩
    have hwm : pick (wrongL (W.length : Nat)) (cellV ns 2 % 9) ∈ wrongL (W.length : Nat) := pick_mem (by omega) (by show cellV ns 2 % 9 < ((9 : Nat) : Int); omega)
    obtain ⟨hv, hT, hdv, hrl⟩ := wrong_no hs0 hs1 hwm
    generalize pick (wrongL (W.length : Nat)) (cellV ns 2 % 9) = v at hv hT hdv hrl
    clear hwm
    generalize hmore : cellV ns 2 = more
    walk_at "w"
    refine EvalW.compP (fun v => some v) rfl P.hd rfl ?_
    refine IterE.list ?_
    walk_at "w"
    refine ⟨_, rfl, hWm, fun _ _ => rfl, ?_, ?_⟩
    · intro v hv H' hle
      refine PureStep.map rfl fun L' => ?_
      walk_at "w"
      exact ⟨rfl, rfl⟩
    rw [show (W.map wv).filterMap (fun v => some v) = W.map wv by simp]
    walk_at "w"
    refine (cell_ok P _).call ⟨ns, 1, rfl, by omega, hn, ?_⟩
    walk_at "w"
    obtain ⟨asker, hasd⟩ : ∃ a : Nat, (a : Int) = cellV ns 1 / 3 % (W.length : Int) := ⟨(cellV ns 1 / 3 % (W.length : Int)).toNat, Int.toNat_of_nonneg (Int.emod_nonneg _ (by omega))⟩
    have has : asker < W.length := by have := Int.emod_lt_of_pos (cellV ns 1 / 3) (b := (W.length : Int)) (by omega); omega
    rw [← hasd]
    refine CallW.make P (by kernel_rfl) (by kernel_rfl) (by kernel_rfl) (ninit_ok P _) fun x d hx hd hxd => ?_
    refine ⟨x, d, W, asker, rfl, hWok, has, Hp.set_self .., (Hp.set_ne hxd.symm).trans (Hp.set_self ..), ?_⟩
    intro H3 N As e1 e2 Rp fr foot
    refine ⟨rfl, ?_⟩
    subst e1
    clear fr foot
    have I := RInv.start W asker has hWok.lts
    have S := SzInv.start (asker := asker) hWok.lens has
    generalize netM W asker = M at Rp I S
    walk_at "w"
    refine ExecW.for_in false P.hd (fun e => by cases e) ?_
    refine IterE.range (P.blt (by kernel_rfl) (by boot_fast)) rfl ?_
    walk_at "w"
    refine ⟨_, rfl, by omega, by omega, ?_⟩
    refine ⟨fun r l H' => ∃ t M, r = (rangeV (more / 9 % 5).toNat).drop t ∧ t ≤ (more / 9 % 5).toNat ∧ NetRep 118 248 H' N As W.length asker M ∧ RInv W.length M ∧ SzInv W.length t M ∧ l = [(Str.ofString "_law_script", V.lst (ns.map .int)), (Str.ofString "_law_size", V.int ((W.length : Nat) : Int)), (Str.ofString "_law_waits", V.lst (W.map wv)), (Str.ofString "_law_more", V.int more), (Str.ofString "_law_wrong_here", v), (Str.ofString "_law_net", V.ref N.i)], ⟨_, ⟨0, M, rfl, by omega, Rp, I, S, rfl⟩, rfl, rfl, rfl, rfl, rfl, rfl, trivial⟩, ?_, ?_, ?_⟩
    · rintro r l H' _; trivial
    · clear Rp I S
      clear M
      rintro v r l H' ⟨t, M, er, ht, Rp, I, S, rfl⟩
      obtain ⟨hv, hr, hi⟩ := drop_cons er
      rw [ints_length] at hi
      rw [rangeV_nv, List.getElem?_map, List.getElem?_range hi] at hv
      cases hv
      have hrow : M.row.length ≤ 50000 := by have := S.r; omega
      refine AssignW.name (Or.inl rfl) ?_
      simp only [nv]
      walk_at "w"
      refine ⟨_, Rp.meth P hN (f := 198) (by with_unfolding_all rfl) (by kernel_rfl) (by kernel_rfl), Plainly.ofS P.X rfl, ?_⟩
      walk_at "w"
      refine (letters_ok P _).call ⟨N, As, W.length, asker, M, rfl, Rp, hrow, .inl ?_⟩
      walk_at "w"
      refine EvalW.list_fz ?_
      walk_at "w"
      refine ⟨by simp, ?_⟩
      refine CmpW.neNil (n := 6) (fun y hy => by obtain ⟨t, _, rfl⟩ := List.mem_map.mp hy; exact Dt.lv t) (by omega) ?_
      walk_at "w"
      refine ite_w (fun h => ?_) fun h => ?_
      · have hpos : 0 < M.row.length := by
          cases hM : M.row with
          | nil => rw [hM] at h; exact absurd h (by decide)
          | cons _ _ => simp
        walk_at "w"
        refine ⟨_, Rp.meth P hN (f := 205) (by with_unfolding_all rfl) (by kernel_rfl) (by kernel_rfl), Plainly.ofS P.X rfl, ?_⟩
        walk_at "w"
        refine (bring_ok P _).call ⟨N, As, W.length, asker, M, 0, rfl, Rp, S.nok (by omega) (fun u hu => (I.row u hu).2), by omega, hpos, ?_⟩
        intro H2 y Rp2 _ _ _
        have I2 := I.bring 0
        have S2 := S.bring (by omega) (fun u hu => (I.row u hu).2) 0
        walk_at "w"
        exact ⟨_, ⟨t + 1, _, hr, by omega, Rp2, I2, S2, rfl⟩, rfl, rfl, rfl, rfl, rfl, rfl, trivial⟩
      · walk_at "w"
        have S2 : SzInv W.length (t + 1) M := ⟨fun k hk => ⟨Nat.le_succ_of_le (S.a k hk).1, Nat.le_succ_of_le (S.a k hk).2.1, (S.a k hk).2.2⟩, by have := S.r; omega⟩
        exact ⟨_, ⟨t + 1, M, hr, by omega, Rp, I, S2, rfl⟩, rfl, rfl, rfl, rfl, rfl, rfl, trivial⟩
    clear Rp I S
    clear M
    rintro l H4 ⟨t, M, er, ht, Rp, I, S, rfl⟩
    have hrow : M.row.length ≤ 20000 := by have := S.r; omega
    walk_at "w"
    refine ExecW.assign_compO (gN fun (h : Nat) => if decide (((h : Int) + more) % 3 > 0) = true then some (nv h) else none) rfl rfl P.hd rfl ?_
    refine IterE.range (P.blt (by kernel_rfl) (by boot_fast)) rfl ?_
    walk_at "w"
    refine ⟨_, rfl, by omega, by omega, ?_⟩
    simp only [Int.toNat_natCast]
    refine ⟨by rw [ints_length]; omega, fun _ _ => trivial, ?_, fun b hb => ?_⟩
    · intro v hv H' hle
      rw [rangeV_nv] at hv
      obtain ⟨x, hx, rfl⟩ := List.mem_map.mp hv
      refine PureStep.filt rfl fun L' => ?_
      simp only [nv]
      walk_at "w"
      refine ⟨rfl, ?_⟩
      refine ite_w (fun h => ?_) fun h => ?_
      · walk_at "w"
        refine ⟨rfl, ?_⟩
        rw [gN_nv, if_pos h]
      · rw [gN_nv, if_neg (by rw [h]; decide)]
    rw [rangeV_nv, fm_gN, fm_filter]
    have hhs := hands_lt (s := W.length) (fun (h : Nat) => decide (((h : Int) + more) % 3 > 0))
    have hhl := hands_len (s := W.length) (fun (h : Nat) => decide (((h : Int) + more) % 3 > 0))
    generalize (List.range W.length).filter (fun (h : Nat) => decide (((h : Int) + more) % 3 > 0)) = hs at hhs hhl
    have gb : (H4.set b (.list (hs.map nv))) b = some (.list (natV hs)) := Hp.set_self ..
    walk_at "w"
    refine ⟨_, MethIs.insert gb, Plainly.builtin _, ?_⟩
    walk_at "w"
    refine CallW.len (lview_ref gb) (by rw [natV_length]; omega) ?_
    rw [natV_length]
    walk_at "w"
    have hj0 : 0 ≤ more / 45 % ((hs.length : Int) + 1) := Int.emod_nonneg _ (by omega)
    have hj1 : more / 45 % ((hs.length : Int) + 1) < (hs.length : Int) + 1 := Int.emod_lt_of_pos _ (by omega)
    obtain ⟨j, hjd⟩ : ∃ j : Nat, (j : Int) = more / 45 % ((hs.length : Int) + 1) := ⟨_, Int.toNat_of_nonneg hj0⟩
    rw [← hjd]
    rw [← hjd] at hj0 hj1
    refine CallW.insert gb (by rw [natV_length]; omega) (by rw [natV_length]; omega) ?_
    refine Cont.next ?_
    refine ExecsW.freeze (x := Str.ofString "_law_hands") rfl (Hp.set_self ..) ?_
    refine ExecsW.le (Hp.noTb_le _) ?_
    have Rp5 : NetRep 118 248 (((H4.set b (.list (hs.map nv))).set b (.list ((natV hs).take j ++ v :: (natV hs).drop j))).del b).noTb N As W.length asker M := by
      refine NetRep.noTb (Rp.le fun c o e => ?_)
      have : c ≠ b := Hp.ne e hb
      simp [Hp.del, Hp.set, this, e]
    have nt := Hp.noTb_nt (((H4.set b (.list (hs.map nv))).set b (.list ((natV hs).take j ++ v :: (natV hs).drop j))).del b)
    generalize (((H4.set b (.list (hs.map nv))).set b (.list ((natV hs).take j ++ v :: (natV hs).drop j))).del b).noTb = H5 at Rp5 nt
    clear Rp gb hb
    have hbh : BadHs W.length (insV (natV hs) j v) := ins_badHs hhs (by omega) hv hT
    have hhz : (insV (natV hs) j v).length ≤ 100 := by rw [len_ins, natV_length]; omega
    rw [show (natV hs).take j ++ v :: (natV hs).drop j = insV (natV hs) j v from rfl]
    generalize insV (natV hs) j v = hl at hbh hhz
    walk_at "w"
    refine (seen_ok P _).call ⟨N, As, W.length, asker, M, rfl, Rp5, has, hW9, Nat.le_trans hrow (by decide), ?_⟩
    have hsd := seenV_dt W.length asker M
    walk_at "w"
    refine (cell_ok P _).call ⟨ns, 3, rfl, by omega, hn, ?_⟩
    have hp0 : 0 ≤ cellV ns 3 % 4 := by omega
    have hp4 : cellV ns 3 % 4 < 4 := by omega
    walk_at "w"
    generalize cellV ns 3 % 4 = pk at hp0 hp4
    refine EvalW.list_fz ?_
    walk_at "w"
    refine CallW.tupleOf rfl (by simp; omega) ?_
    walk_at "w"
    refine EvalW.list_fz ?_
    walk_at "w"
    refine ⟨by simp, ?_⟩
    refine BinW.addLF rfl rfl (by simp; omega) ?_
    walk_at "w"
    refine EvalW.list_fz ?_
    walk_at "w"
    refine EvalW.list_fz ?_
    walk_at "w"
    refine ⟨by simp, ?_⟩
    walk_at "w"
    refine ⟨?_, by simp⟩
    walk_at "w"
    refine ⟨by simp, ?_⟩
    refine EvalW.sliceF ?_ (by intro _ _; with_unfolding_all rfl)
    walk_at "w"
    refine PartW.some ?_
    walk_at "w"
    refine ⟨_, rfl, ?_⟩
    refine PartW.none ?_
    refine ⟨rfl, _, rfl, by simp; omega, ?_⟩
    rw [show pickV (W.map wv) (some (1 : Int)) none = (W.map wv).drop 1 from pickV_from _ 1]
    refine BinW.addLF rfl rfl (by simp; omega) ?_
    walk_at "w"
    refine EvalW.list_fz ?_
    walk_at "w"
    refine ⟨by simp, ?_⟩
    walk_at "w"
    refine ⟨by simp, ?_⟩
    walk_at "w"
    refine SubW.list rfl hp0 (by omega) (pick_get (l := badL W W.length) hp0 (by show pk < ((4 : Nat) : Int); omega)) ?_
    walk_at "w"
    refine EvalW.list_fz ?_
    walk_at "w"
    refine ⟨by simp, ?_⟩
    walk_at "w"
    refine SubW.list rfl hp0 (by omega) (pick_get (l := atL W.length) hp0 (by show pk < ((4 : Nat) : Int); omega)) ?_
    refine Cont.next (ExecsW.seq (fun l H' => H' = H5 ∧ l = [(Str.ofString "_law_script", V.lst (ns.map .int)), (Str.ofString "_law_size", V.int ((W.length : Nat) : Int)), (Str.ofString "_law_waits", V.lst (W.map wv)), (Str.ofString "_law_wrong_here", v), (Str.ofString "_law_net", V.ref N.i), (Str.ofString "_law_hands", V.lst hl), (Str.ofString "_law_before", seenV W.length asker M), (Str.ofString "_law_bad", pick (badL W W.length) pk), (Str.ofString "_law_at", atB W.length pk)]) ?_ ?_)
    · walk_at "w"
      refine ite_w (fun h => ?_) fun h => ?_
      · have h : pk = 1 := by simpa using h
        walk_at "w"
        refine ite_w (fun h' => ?_) fun h' => ?_
        · have h' : W.length = 40 := by have : ((W.length : Nat) : Int) = 40 := by simpa using h'
                                        omega
          walk_at "w"
          refine ite_t rfl ?_
          walk_at "w"
          refine ⟨_, ⟨rfl, rfl⟩, rfl, rfl, rfl, rfl, rfl, rfl, rfl, rfl, ?_, trivial⟩
          show some _ = some (atB W.length pk)
          unfold atB; rw [if_pos ⟨h, h'⟩]
        · have h' : ¬ W.length = 40 := fun z => by rw [z] at h'; exact absurd h' (by decide)
          refine ite_f rfl ?_
          walk_at "w"
          refine ⟨_, ⟨rfl, rfl⟩, rfl, rfl, rfl, rfl, rfl, rfl, rfl, rfl, ?_, trivial⟩
          show some _ = some (atB W.length pk)
          unfold atB; rw [if_neg (fun z => h' z.2)]
      · have h : ¬ pk = 1 := by simpa using h
        refine ite_f rfl ?_
        walk_at "w"
        refine ⟨_, ⟨rfl, rfl⟩, rfl, rfl, rfl, rfl, rfl, rfl, rfl, rfl, ?_, trivial⟩
        show some _ = some (atB W.length pk)
        unfold atB; rw [if_neg (fun z => h z.1)]
    rintro l H6 ⟨rfl, rfl⟩
    have hatd : Dt 3 (atB W.length pk) := by
      unfold atB; split
      · exact .none
      · have : pk = 0 ∨ pk = 1 ∨ pk = 2 ∨ pk = 3 := by omega
        rcases this with rfl | rfl | rfl | rfl
        · exact .none
        · exact .int _
        · exact .int _
        · exact .none
    have hrl4 : M.row.length ≤ 40000 := Nat.le_trans hrow (by decide)
    have hrl5 : M.row.length ≤ 50000 := Nat.le_trans hrow (by decide)
    have hrlm : (M.row.map lv).length ≤ 100000 := by rw [List.length_map]; exact Nat.le_trans hrow (by decide)
    have hl5 : hl.length ≤ 100000 := Nat.le_trans hhz (by decide)
    have hlvs : ∀ y ∈ M.row.map lv, Dt 6 y := fun y hy => by obtain ⟨t, _, rfl⟩ := List.mem_map.mp hy; exact Dt.lv t
    walk_at "w"
    refine ExecW.for_in false P.hd (fun e => by cases e) ?_
    refine IterE.range (P.blt (by kernel_rfl) (by boot_fast)) rfl ?_
    walk_at "w"
    refine ⟨_, rfl, by decide, by decide, ?_⟩
    refine ⟨fun r l H' => ∃ i, r = (rangeV 8).drop i ∧ i ≤ 8 ∧ H' = H6 ∧ l = [(Str.ofString "_law_script", V.lst (ns.map .int)), (Str.ofString "_law_size", V.int ((W.length : Nat) : Int)), (Str.ofString "_law_waits", V.lst (W.map wv)), (Str.ofString "_law_wrong_here", v), (Str.ofString "_law_net", V.ref N.i), (Str.ofString "_law_hands", V.lst hl), (Str.ofString "_law_before", seenV W.length asker M), (Str.ofString "_law_bad", pick (badL W W.length) pk), (Str.ofString "_law_at", atB W.length pk)], ⟨_, ⟨0, rfl, by omega, rfl, rfl⟩, rfl, rfl, rfl, rfl, rfl, rfl, rfl, rfl, rfl, trivial⟩, ?_, ?_, ?_⟩
    · rintro r l H' _; trivial
    · rintro u r l H' ⟨i, er, hi8, rfl, rfl⟩
      obtain ⟨hu, hr, hi⟩ := drop_cons er
      rw [ints_length] at hi
      rw [rangeV_nv, List.getElem?_map, List.getElem?_range hi] at hu
      cases hu
      refine AssignW.name (Or.inl rfl) ?_
      simp only [nv]
      walk_at "w"
      refine (cell_ok P _).call ⟨ns, 3, rfl, by omega, hn, ?_⟩
      walk_at "w"
      refine EvalW.list_fz ?_
      walk_at "w"
      refine ⟨by simp, ?_⟩
      walk_at "w"
      refine SubW.list rfl (by omega) (by omega) (pick_get (l := dueL) (by omega) (by show ((i : Nat) : Int) < ((8 : Nat) : Int); omega)) ?_
      have hdd : Dt 3 (pick dueL (i : Int)) := dueL_dt (pick_mem (by omega) (by show ((i : Nat) : Int) < ((8 : Nat) : Int); omega))
      generalize ((i : Int) + cellV ns 3 / 4) % 2 = way
      refine Cont.next (ExecsW.cons ?_)
      walk_at "v"
      walk_at "v"
      refine Cont.next (ExecsW.seq (fun l H'' => H'' = H' ∧ ∃ pl : V, (∀ H, ∃ T, tyOf H pl = some T) ∧ (i = 5 → isPlaceV pl M.row.length = false) ∧ (i ≠ 5 → isPlaceV pl W.length = false) ∧ l = [(Str.ofString "_law_script", V.lst (ns.map .int)), (Str.ofString "_law_size", V.int ((W.length : Nat) : Int)), (Str.ofString "_law_waits", V.lst (W.map wv)), (Str.ofString "_law_wrong_here", v), (Str.ofString "_law_net", V.ref N.i), (Str.ofString "_law_hands", V.lst hl), (Str.ofString "_law_before", seenV W.length asker M), (Str.ofString "_law_bad", pick (badL W W.length) pk), (Str.ofString "_law_at", atB W.length pk), (Str.ofString "_law_kind", V.int ((i : Nat) : Int)), (Str.ofString "_law_way", V.int way), (Str.ofString "_law_due", pick dueL (i : Int)), (Str.ofString "_law_place", pl)]) ?_ ?_)
      · walk_at "w"
        refine ite_w (fun h5 => ?_) fun h5 => ?_
        · have h5 : i = 5 := by have : ((i : Nat) : Int) = 5 := by simpa using h5
                                omega
          walk_at "w"
          refine CmpW.eqD hdv (Dt.int _) (by decide) ?_
          walk_at "w"
          refine ite_w (fun hq => ?_) fun hq => ?_
          · obtain ⟨T, hTv⟩ := hT H'
            walk_at "w"
            refine CallW.isi_bool hTv ?_
            walk_at "w"
            refine ite_w (fun hb => ?_) fun hb => ?_
            · walk_at "w"
              refine ite_t rfl ?_
              walk_at "w"
              refine SubW.tupL rfl rfl ?_
              walk_at "w"
              refine CallW.len rfl hrlm ?_
              rw [List.length_map]
              walk_at "w"
              exact ⟨_, ⟨rfl, .int M.row.length, fun _ => ⟨_, rfl⟩, fun _ => by simp [isPlaceV], fun z => absurd h5 z, rfl⟩, rfl, rfl, rfl, rfl, rfl, rfl, rfl, rfl, rfl, rfl, rfl, rfl, rfl, trivial⟩
            · refine ite_f rfl ?_
              walk_at "w"
              refine ⟨_, ⟨rfl, v, hT, fun _ => ?_, fun _ => hv, rfl⟩, rfl, rfl, rfl, rfl, rfl, rfl, rfl, rfl, rfl, rfl, rfl, rfl, rfl, trivial⟩
              rcases hrl with e | e
              · rw [e] at hTv
                cases hTv
                exact absurd hb (by decide +kernel)
              · exact e _ hrl4
          · refine ite_f rfl ?_
            walk_at "w"
            refine ⟨_, ⟨rfl, v, hT, fun _ => ?_, fun _ => hv, rfl⟩, rfl, rfl, rfl, rfl, rfl, rfl, rfl, rfl, rfl, rfl, rfl, rfl, rfl, trivial⟩
            rcases hrl with e | e
            · rw [e] at hq
              rw [eqv_refl _ rfl] at hq
              cases hq
            · exact e _ hrl4
        · have h5 : ¬ i = 5 := fun z => by rw [z] at h5; exact absurd h5 (by decide)
          refine ite_f rfl ?_
          walk_at "w"
          exact ⟨_, ⟨rfl, v, hT, fun z => absurd z h5, fun _ => hv, rfl⟩, rfl, rfl, rfl, rfl, rfl, rfl, rfl, rfl, rfl, rfl, rfl, rfl, rfl, trivial⟩
      rintro l H7 ⟨rfl, pl, hTp, hp5, hpn, rfl⟩
      obtain ⟨o, hdeed, hout⟩ := deed_good (rl := M.row.length) hi hWok hTp hp5 hpn hhz hbh
      walk_at "w"
      refine EvalW.compP (fun v => some v) rfl P.hd rfl ?_
      refine IterE.list ?_
      walk_at "w"
      refine ⟨_, rfl, hWm, fun _ _ => rfl, ?_, ?_⟩
      · intro v hv H' hle
        refine PureStep.map rfl fun L' => ?_
        walk_at "w"
        exact ⟨rfl, rfl⟩
      rw [show (W.map wv).filterMap (fun v => some v) = W.map wv by simp]
      walk_at "w"
      refine CallW.listCopyF rfl hl5 ?_
      walk_at "w"
      refine (said_ok P hfr k).call ⟨way, _, _, pl, hl, N, As, W.length, asker, M, o, rfl, Rp5, hW1k, hrl4, hdeed, nt, ?_⟩
      rw [hout]
      walk_at "w"
      refine CmpW.neSame hdd (by decide) ?_
      walk_at "w"
      refine ite_f rfl ?_
      refine ExecsW.nil (Cont.next (ExecsW.seq (fun l H'' => H'' = H7 ∧ l = [(Str.ofString "_law_script", V.lst (ns.map .int)), (Str.ofString "_law_size", V.int ((W.length : Nat) : Int)), (Str.ofString "_law_waits", V.lst (W.map wv)), (Str.ofString "_law_wrong_here", v), (Str.ofString "_law_net", V.ref N.i), (Str.ofString "_law_hands", V.lst hl), (Str.ofString "_law_before", seenV W.length asker M), (Str.ofString "_law_bad", pick (badL W W.length) pk), (Str.ofString "_law_at", atB W.length pk)]) ?_ ?_))
      · walk_at "w"
        refine ⟨?_, by simp⟩
        refine CmpW.inTup (n := 2) (Dt.int _) (fun y hy => by
          simp only [List.mem_cons, List.not_mem_nil, or_false] at hy
          rcases hy with rfl | rfl | rfl | rfl <;> exact .int _) (by decide) ?_
        walk_at "w"
        refine ite_w (fun h4 => ?_) fun h4 => ?_
        · have hi4 := in4 hi h4
          walk_at "w"
          refine CallW.listCopyF rfl hl5 ?_
          walk_at "w"
          refine (said_ok P hfr k).call ⟨way, _, _, v, hl, N, As, W.length, asker, M, some (.bad (atB W.length pk)), rfl, Rp5, hW1k, hrl4, deed_bad hi4 (bad_need hWok hp0 hp4), nt, ?_⟩
          walk_at "w"
          refine ⟨?_, by simp⟩
          refine CmpW.neSame (n := 4) (v := .tup [.str (Str.ofString "waits"), atB W.length pk]) (pair_dt (.str (by decide +kernel)) hatd) (by decide) ?_
          walk_at "w"
          refine ite_f rfl ?_
          walk_at "w"
          exact ⟨_, ⟨rfl, rfl⟩, rfl, rfl, rfl, rfl, rfl, rfl, rfl, rfl, rfl, trivial⟩
        · walk_at "w"
          exact ⟨_, ⟨rfl, rfl⟩, rfl, rfl, rfl, rfl, rfl, rfl, rfl, rfl, rfl, trivial⟩
      rintro l H8 ⟨rfl, rfl⟩
      walk_at "w"
      refine (seen_ok P _).call ⟨N, As, W.length, asker, M, rfl, Rp5, has, hW9, hrl4, ?_⟩
      walk_at "w"
      refine CmpW.neSame hsd (by decide) ?_
      walk_at "w"
      refine ite_f rfl ?_
      walk_at "w"
      exact ⟨_, ⟨i + 1, hr, hi, rfl, rfl⟩, rfl, rfl, rfl, rfl, rfl, rfl, rfl, rfl, rfl, trivial⟩
    rintro l H' ⟨i, er, hi8, rfl, rfl⟩
    walk_at "w"
    refine SubW.tupL rfl rfl ?_
    walk_at "w"
    refine EvalW.list_fz ?_
    walk_at "w"
    refine ⟨by simp, ?_⟩
    refine CmpW.neNil hlvs (by decide) ?_
    walk_at "w"
    refine ite_w (fun h => ?_) fun h => ?_
    · have hpos : 0 < M.row.length := by
        cases hM : M.row with
        | nil => rw [hM] at h; exact absurd h (by decide)
        | cons _ _ => simp
      walk_at "w"
      refine ⟨_, Rp5.meth P hN (f := 205) (by with_unfolding_all rfl) (by kernel_rfl) (by kernel_rfl), Plainly.ofS P.X rfl, ?_⟩
      walk_at "w"
      refine SubW.tupL rfl rfl ?_
      walk_at "w"
      refine CallW.len rfl hrlm ?_
      rw [List.length_map]
      walk_at "w"
      rw [show ((M.row.length : Nat) : Int) - 1 = ((M.row.length - 1 : Nat) : Int) by omega]
      refine (bring_ok P _).call ⟨N, As, W.length, asker, M, M.row.length - 1, rfl, Rp5, S.nok (by omega) (fun u hu => (I.row u hu).2), by omega, by omega, ?_⟩
      intro H8 y Rp8 _ _ _
      have S8 := S.bring (by omega) (fun u hu => (I.row u hu).2) (M.row.length - 1)
      have hge := bring_ge M (M.row.length - 1)
      have hr8 : (bringM M (M.row.length - 1)).1.row.length ≤ 50000 := by have := S8.r; omega
      generalize (bringM M (M.row.length - 1)).1 = M8 at Rp8 hge hr8
      walk_at "w"
      refine ⟨_, Rp8.meth P hN (f := 198) (by with_unfolding_all rfl) (by kernel_rfl) (by kernel_rfl), Plainly.ofS P.X rfl, ?_⟩
      walk_at "w"
      refine (letters_ok P _).call ⟨N, As, W.length, asker, M8, rfl, Rp8, hr8, .inl ?_⟩
      walk_at "w"
      refine CallW.len rfl (by rw [List.length_map]; exact Nat.le_trans hr8 (by decide)) ?_
      rw [List.length_map]
      walk_at "w"
      refine SubW.tupL rfl rfl ?_
      walk_at "w"
      refine CallW.len rfl hrlm ?_
      rw [List.length_map]
      walk_at "w"
      refine RetQ.here ?_
      rw [show decide (((M8.row.length : Nat) : Int) ≥ ((M.row.length : Nat) : Int) - 1) = true from decide_eq_true (by omega)]
      exact hQ _
    · walk_at "w"
      refine ⟨_, Rp5.meth P hN (f := 198) (by with_unfolding_all rfl) (by kernel_rfl) (by kernel_rfl), Plainly.ofS P.X rfl, ?_⟩
      walk_at "w"
      refine (letters_ok P _).call ⟨N, As, W.length, asker, M, rfl, Rp5, hrl5, .inl ?_⟩
      walk_at "w"
      refine CallW.len rfl hrlm ?_
      rw [List.length_map]
      walk_at "w"
      refine SubW.tupL rfl rfl ?_
      walk_at "w"
      refine CallW.len rfl hrlm ?_
      rw [List.length_map]
      walk_at "w"
      refine RetQ.here ?_
      rw [show decide (((M.row.length : Nat) : Int) ≥ ((M.row.length : Nat) : Int) - 1) = true from decide_eq_true (by omega)]
      exact hQ _
end Mine
open PySem PySem.W PyProof.Rows
set_option Elab.async false
set_option maxRecDepth 100000
set_option maxHeartbeats 8000000
theorem PySem.Challenge.cw_uf060008_11_holds : PySem.Challenge.rw_uf060008_11.Holds := by
  refine holds_law Mine.said11 fun said => ?_
  refine holds_open (q := Mine.q11) (loose := Mine.loose11) (Xt := fun s => recOk (RowW.records PySem.Challenge.rw_uf060008_11.row.toRowW) s) (XP := fun _ _ => True) (Yf := Hook.obs Mine.hook11) (Ya := Hook.val Mine.hook11) (YP := Hook.says Mine.hook11) (N := 8000) Mine.left11 (Hook.of _) (Hook.keeps _) (fun _ _ => trivial) (fun _ _ _ _ _ => trivial) (by rfl) (by rfl) (by rfl) (fun s e => recFacts_of e) (by rfl) said Mine.ok11 ⟨rfl, rfl, rfl, rfl, rfl, by decide +kernel⟩ ?hw ?hc
  case hw => w_witness2
  intro w s₀ s₁ mg mb G Y fa o pm cd doc dV kV ho hd hcd hD hmg hg args vals as hpre hlay hrd hwl hlo
  have KX : (Mine.K11 w.params).In s₁.heap := Y
  refine Ground.open G ?_
  intro T B D TE TW
  wrow_args hpre hlay hrd hwl hlo
  rename_i ns _ _ _ _ _ _ _ a vals _ hL _ _ _ hI _ hlen _
  refine enter_call ?_
  have hfa := mg_of KX T.g (n := Str.ofString "law") (v := .ref 304) (by kernel_rfl)
  have efa : Value.ref fa = .ref 304 := Option.some.inj (hmg.symm.trans hfa)
  rw [efa]
  obtain ⟨_, ⟨oc, _, _, hoc, _⟩, _⟩ := T.nodigits
  obtain ⟨mm, ⟨om, _, _, hom, _⟩, _⟩ := (T.seer (by kernel_rfl)).mods
  have P : Mine.PCx ⟨PySem.Challenge.rw_uf060008_11.row.prog, w, s₁.heap, s₁.os, true, ⟨oc, hoc⟩, some []⟩ (Mine.K11 w.params) := ⟨KX, T.nolimit, ⟨mg, mb, T.g, T.b, T.builtins⟩, rfl, ⟨om, hom⟩⟩
  exact Mine.law_glue ⟨oc, hoc⟩ hg hL hI (Mine.law_ok (C := ⟨PySem.Challenge.rw_uf060008_11.row.prog, w, s₁.heap, s₁.os, true, ⟨oc, hoc⟩, some []⟩) P rfl 0) (by decide) ⟨ns, rfl, by omega, fun _ => rfl⟩ (fun _ => rfl) (by with_unfolding_all rfl)

