import PyProof.Rows.All
import PyProof.Raises
import PyProof.Calls
import PyProof.AutoListH
import PyProof.AutoSeq1
import PyProof.SliceSyntax
import PyProof.SliceList
import PyProof.ForAny
import PyProof.CallType
import PyProof.Cells
import PyProof.CompMap
import PyProof.PlainList
import PyProof.ConsumeWalk
import PyProof.CompFree
import PyProof.Conv_int_bool
import PyProof.DefCall
import PyProof.DictKinds
import PyProof.DictRoads
import PyProof.DictStraight
import PyProof.EnumFor
import PyProof.EnumMake
import PyProof.RangeIter
import PyProof.WalksMore
import PyProof.RangeFor
import PyProof.ForRange
import PyProof.IsiHeapPairs
import PyProof.IsiNone
import PyProof.IsiPairs
import PyProof.ListCopy
import PyProof.ListMulRoad
import PyProof.ListRange
import PyProof.ListTruth
import PyProof.WalkInts
import PyProof.Rows.News
import PyProof.Rows.TupSub
import PyProof.Rows.Lst
import PyProof.Rows.IntRules
import PyProof.Rows.Chain
import PyProof.Rows.Nodes
import PyProof.Rows.RuleU_int
import PyProof.Rows.RuleB_mul
import PyProof.Rows.RuleB_floordiv
import PyProof.Rows.RuleB_mod
import PyProof.Rows.SeqSlice
import PyProof.Rows.Method
import PyProof.Rows.StrTemp
import PyProof.Rows.ListMul
import PyProof.Rows.RuleC_int
import PyProof.Rows.RuleIs
import PyProof.SliceMore
import PyProof.Rows.StrRules
import PyProof.Rows.EqDataRows
import PyProof.Rows.InDataRows
import PyProof.Rows.SeqMore
import PyProof.Rows.MinMaxN
import OpenK.KWalk
import OpenK.KCell
import KE.KItem
import KE.KRevIter
import Wide.All
import OpenK.AllK
import Wide.FinOn
import Lean
import PySem.Challenge.RW_uf060008_02

set_option Elab.async false
set_option linter.unusedVariables false
namespace Mine
open PySem

inductive V where
  | none
  | bool (b : Bool)
  | int (i : Int)
  | str (s : Str)
  | tup (l : List V)
  | lst (l : List V)
  | ref (a : Addr)
  | con (v : Value)
  deriving Inhabited

inductive O where
  | list (l : List V)
  | dictI (m : Int → Option V) (n : Nat)
  | dictS (m : Str → Option V) (n : Nat)
  | inst (c d : Addr)
  | ns (m : Str → Option V) (n : Nat)

abbrev Hp := Addr → Option O
abbrev Rho := Str → Option V
def Hp.set (H : Hp) (a : Addr) (o : O) : Hp := fun b => if b = a then some o else H b
def Hp.del (H : Hp) (a : Addr) : Hp := fun b => if b = a then none else H b
def Rho.set (ρ : Rho) (x : Str) (v : V) : Rho := fun y => if y = x then some v else ρ y

mutual
inductive VRel (h : Heap) (H : Hp) : V → Value → Prop
  | none : VRel h H .none .none
  | bool (b : Bool) : VRel h H (.bool b) (.bool b)
  | int (i : Int) (t : Tok) : VRel h H (.int i) (.int i t)
  | str (s : Str) (t : Tok) : VRel h H (.str s) (.str s t)
  | tup {a : Addr} {l : List V} {xs : Array Value} (ha : h.IsTuple a xs) (ho : H a = none) (hl : VRelL h H l xs.toList) : VRel h H (.tup l) (.ref a)
  | lst {a : Addr} {l : List V} {xs : Array Value} (ha : h.IsList a xs) (ho : H a = none) (hl : VRelL h H l xs.toList) : VRel h H (.lst l) (.ref a)
  | ref (a : Addr) : VRel h H (.ref a) (.ref a)
  | con (v : Value) : VRel h H (.con v) v
inductive VRelL (h : Heap) (H : Hp) : List V → List Value → Prop
  | nil : VRelL h H [] []
  | cons {v : V} {x : Value} {l : List V} {xs : List Value} (hv : VRel h H v x) (hl : VRelL h H l xs) : VRelL h H (v :: l) (x :: xs)
end

/-- what may change between two states: owned objects; new objects may come -/
structure Ext (H : Hp) (h : Heap) (H' : Hp) (h' : Heap) : Prop where
  keep : ∀ a o, h.get? a = some o → H a = none → h'.get? a = some o
  grow : ∀ a o, h.get? a = some o → H a = none → H' a = none
  live : ∀ a o, h.get? a = some o → ∃ o', h'.get? a = some o'

theorem Ext.refl (H : Hp) (h : Heap) : Ext H h H h := ⟨fun _ _ e _ => e, fun _ _ _ e => e, fun _ o e => ⟨o, e⟩⟩
theorem Ext.trans {H h H' h' H'' h''} (x : Ext H h H' h') (y : Ext H' h' H'' h'') : Ext H h H'' h'' :=
  ⟨fun a o e n => y.keep a o (x.keep a o e n) (x.grow a o e n), fun a o e n => y.grow a o (x.keep a o e n) (x.grow a o e n), fun a o e => let ⟨o', e'⟩ := x.live a o e; y.live a o' e'⟩

/-- lists and tuples that nobody owns stay -/
def ExtV (H : Hp) (h : Heap) (H' : Hp) (h' : Heap) : Prop :=
  ∀ a o xs n, h.get? a = some o → o.data = .seq xs n → H a = none → h'.get? a = some o ∧ H' a = none
theorem Ext.v {H h H' h'} (E : Ext H h H' h') : ExtV H h H' h' := fun a o _ _ e _ n => ⟨E.keep a o e n, E.grow a o e n⟩
theorem ExtV.refl (H : Hp) (h : Heap) : ExtV H h H h := fun _ _ _ _ e _ n => ⟨e, n⟩
theorem ExtV.trans {H h H' h' H'' h''} (x : ExtV H h H' h') (y : ExtV H' h' H'' h'') : ExtV H h H'' h'' :=
  fun a o xs n e d m => let ⟨e1, m1⟩ := x a o xs n e d m; y a o xs n e1 d m1
/-- one object that is neither list nor tuple is changed -/
theorem ExtV.but {H : Hp} {h h' : Heap} {b : Addr} {ob : Obj} (hb : h.get? b = some ob) (nb : ∀ xs n, ob.data ≠ .seq xs n) (e : ∀ a o, a ≠ b → h.get? a = some o → h'.get? a = some o) : ExtV H h H h' :=
  fun a o xs n ea d m => ⟨e a o (fun q => by subst q; rw [hb] at ea; cases ea; exact nb _ _ d) ea, m⟩

mutual
theorem VRel.extV {H h H' h'} (E : ExtV H h H' h') : ∀ {v x}, VRel h H v x → VRel h' H' v x
  | _, _, .none => .none
  | _, _, .bool b => .bool b
  | _, _, .int i t => .int i t
  | _, _, .str i t => .str i t
  | _, _, .tup ha ho hl => .tup (let ⟨o, e, c, n, r⟩ := ha; ⟨o, (E _ _ _ _ e r ho).1, c, n, r⟩) (let ⟨o, e, c, n, r⟩ := ha; (E _ _ _ _ e r ho).2) (VRelL.extV E hl)
  | _, _, .lst ha ho hl => .lst (let ⟨o, e, c, n, r⟩ := ha; ⟨o, (E _ _ _ _ e r ho).1, c, n, r⟩) (let ⟨o, e, c, n, r⟩ := ha; (E _ _ _ _ e r ho).2) (VRelL.extV E hl)
  | _, _, .ref a => .ref a
  | _, _, .con v => .con v
theorem VRelL.extV {H h H' h'} (E : ExtV H h H' h') : ∀ {v x}, VRelL h H v x → VRelL h' H' v x
  | _, _, .nil => .nil
  | _, _, .cons hv hl => .cons (hv.extV E) (VRelL.extV E hl)
end
theorem VRel.ext {H h H' h'} (E : Ext H h H' h') {v x} (r : VRel h H v x) : VRel h' H' v x := r.extV E.v
theorem VRelL.ext {H h H' h'} (E : Ext H h H' h') {v x} (r : VRelL h H v x) : VRelL h' H' v x := r.extV E.v
theorem VRelL.length {h H} : ∀ {l xs}, VRelL h H l xs → xs.length = l.length
  | _, _, .nil => rfl
  | _, _, .cons _ hl => by simp [hl.length]
theorem VRelL.append {h H} : ∀ {l xs l' xs'}, VRelL h H l xs → VRelL h H l' xs' → VRelL h H (l ++ l') (xs ++ xs')
  | _, _, _, _, .nil, y => y
  | _, _, _, _, .cons hv hl, y => .cons hv (hl.append y)
theorem VRelL.get {h H} : ∀ {l xs} {i : Nat} {v : V}, VRelL h H l xs → l[i]? = some v → ∃ x, xs[i]? = some x ∧ VRel h H v x
  | _, _, i, v, .nil, e => by simp at e
  | _, _, 0, v, .cons hv hl, e => by simp at e; subst e; exact ⟨_, rfl, hv⟩
  | _, _, i + 1, v, .cons hv hl, e => by simp at e; simpa using hl.get e
theorem VRelL.get' {h H} : ∀ {l xs} {i : Nat} {x : Value}, VRelL h H l xs → xs[i]? = some x → ∃ v, l[i]? = some v ∧ VRel h H v x
  | _, _, i, v, .nil, e => by simp at e
  | _, _, 0, v, .cons hv hl, e => by simp at e; subst e; exact ⟨_, rfl, hv⟩
  | _, _, i + 1, v, .cons hv hl, e => by simp at e; simpa using hl.get' e
theorem VRelL.set {h H} : ∀ {l xs} {i : Nat} {v : V} {x : Value}, VRelL h H l xs → VRel h H v x → VRelL h H (l.set i v) (xs.set i x)
  | _, _, i, v, x, .nil, _ => .nil
  | _, _, 0, v, x, .cons hv hl, r => .cons r hl
  | _, _, i + 1, v, x, .cons hv hl, r => .cons hv (hl.set r)
theorem VRelL.take {h H} : ∀ {l xs} (i : Nat), VRelL h H l xs → VRelL h H (l.take i) (xs.take i)
  | _, _, 0, _ => by simp; exact .nil
  | _, _, i + 1, .nil => by simp; exact .nil
  | _, _, i + 1, .cons hv hl => .cons hv (hl.take i)
theorem VRelL.drop {h H} : ∀ {l xs} (i : Nat), VRelL h H l xs → VRelL h H (l.drop i) (xs.drop i)
  | _, _, 0, x => x
  | _, _, i + 1, .nil => by simp; exact .nil
  | _, _, i + 1, .cons hv hl => hl.drop i
theorem VRelL.reverse {h H} : ∀ {l xs}, VRelL h H l xs → VRelL h H l.reverse xs.reverse
  | _, _, .nil => .nil
  | _, _, .cons hv hl => by simp only [List.reverse_cons]; exact hl.reverse.append (.cons hv .nil)

structure Cx where
  prog : Program
  w : World
  base : Heap
  os : OsState
  hd : Bool
  low : ∃ o, base.get? cStatics = some o

abbrev Cx.M (C : Cx) : Model := model C.prog C.w

def OptRel (h : Heap) (H : Hp) : Option V → Option Value → Prop
  | some v, some x => VRel h H v x
  | none, none => True
  | _, _ => False
theorem OptRel.extV {H h H' h'} (E : ExtV H h H' h') : ∀ {v x}, OptRel h H v x → OptRel h' H' v x
  | some _, some _, r => VRel.extV E r
  | none, none, _ => trivial

def ORel (C : Cx) (h : Heap) (H : Hp) (a : Addr) : O → Prop
  | .list l => ∃ xs, h.PlainList a xs ∧ VRelL h H l xs.toList
  | .dictI m n => ∃ kvs, h.DictOf (intKind C.prog C.w) a kvs ∧ kvs.length ≤ n ∧ ∀ k, OptRel h H (m k) (valueAt kvs k)
  | .dictS m n => ∃ kvs, h.DictOf (strKind C.prog C.w) a kvs ∧ kvs.length ≤ n ∧ ∀ k, OptRel h H (m k) (valueAt kvs k)
  | .inst c d => h.get? a = some { cls := .ref c, dict := some d, data := .plain }
  | .ns m n => ∃ o es ep, h.get? a = some o ∧ o.data = .dict es ep ∧ StrKeys es ∧ es.size ≤ n ∧ ∀ k, OptRel h H (m k) (nsFind es k)

structure Sim (C : Cx) (H : Hp) (s : Shared) : Prop where
  keep : ∀ b o, C.base.get? b = some o → s.heap.get? b = some o
  gens : s.gens = #[]
  os : s.os = C.os
  objs : ∀ a o, H a = some o → ORel C s.heap H a o
  new : ∀ a, H a ≠ none → C.base.get? a = none ∧ a ≠ sysModules

theorem ORel.lt {C h H a o} (r : ORel C h H a o) : ∃ ob, h.get? a = some ob := by
  cases o with
  | list l => obtain ⟨xs, ⟨n, e⟩, _⟩ := r; exact ⟨_, e⟩
  | dictI m n => obtain ⟨f, ⟨o, es, ep, e, _⟩, _⟩ := r; exact ⟨o, e⟩
  | dictS m n => obtain ⟨f, ⟨o, es, ep, e, _⟩, _⟩ := r; exact ⟨o, e⟩
  | inst c d => exact ⟨_, r⟩
  | ns m n => obtain ⟨o, es, ep, e, _⟩ := r; exact ⟨o, e⟩

/-- an owned object that nobody touched -/
theorem ORel.same {C h H h' H' a o} (r : ORel C h H a o) (E : ExtV H h H' h') (e : h'.get? a = h.get? a) : ORel C h' H' a o := by
  cases o with
  | list l => obtain ⟨xs, ⟨o, e1⟩, r2⟩ := r; exact ⟨xs, ⟨o, e.trans e1⟩, r2.extV E⟩
  | dictI m n =>
    obtain ⟨f, ⟨o, es, ep, e1, r1⟩, d, r2⟩ := r
    exact ⟨f, ⟨o, es, ep, e.trans e1, r1⟩, d, fun k => (r2 k).extV E⟩
  | dictS m n =>
    obtain ⟨f, ⟨o, es, ep, e1, r1⟩, d, r2⟩ := r
    exact ⟨f, ⟨o, es, ep, e.trans e1, r1⟩, d, fun k => (r2 k).extV E⟩
  | inst c d => exact e.trans r
  | ns m n =>
    obtain ⟨o, es, ep, e1, r1, r3, d, r2⟩ := r
    exact ⟨o, es, ep, e.trans e1, r1, r3, d, fun k => (r2 k).extV E⟩

/-- frame of a call: locals and cells -/
structure Frm (C : Cx) (H : Hp) (env : Env) (m cm : Str → Option Value) (h : Heap) : Prop where
  ns : h.Ns env.locals m
  cell : ∀ n c, env.cells.lookup n = some c → h.IsCell c (cm n)
  own : H env.locals = none
  ownc : ∀ n c, env.cells.lookup n = some c → H c = none
  above : C.base.get? env.locals = none
  abovec : ∀ n c, env.cells.lookup n = some c → C.base.get? c = none
  apart : ∀ n n' c, env.cells.lookup n = some c → env.cells.lookup n' = some c → n = n'

def LocRel (h : Heap) (H : Hp) (env : Env) (m cm : Str → Option Value) (x : Str) (v : V) : Prop :=
  match env.kindOf x with
  | some .local => ∃ u, m x = some u ∧ VRel h H v u
  | some .cell | some .free => ∃ u c, env.cells.lookup x = some c ∧ cm x = some u ∧ VRel h H v u
  | _ => True

structure SimL (C : Cx) (env : Env) (ρ : Rho) (H : Hp) (s : Shared) : Prop where
  sim : Sim C H s
  kind : env.scope.kind = .function
  globals : env.globals = mainGlobals
  builtins : env.builtins = builtinsNs
  frm : ∃ m cm, Frm C H env m cm s.heap ∧ ∀ x v, ρ x = some v → LocRel s.heap H env m cm x v

theorem LocRel.extV {H h H' h' env m cm x v} (E : ExtV H h H' h') (r : LocRel h H env m cm x v) : LocRel h' H' env m cm x v := by
  unfold LocRel at *
  split at r
  · obtain ⟨u, a, b⟩ := r; exact ⟨u, a, b.extV E⟩
  · obtain ⟨u, c, a, b, d⟩ := r; exact ⟨u, c, a, b, d.extV E⟩
  · obtain ⟨u, c, a, b, d⟩ := r; exact ⟨u, c, a, b, d.extV E⟩
  · trivial

theorem Frm.ext {C H h H' h' env m cm} (E : Ext H h H' h') (F : Frm C H env m cm h) : Frm C H' env m cm h' := by
  obtain ⟨oL, es, ep, eL, rL⟩ := F.ns
  refine ⟨⟨oL, es, ep, E.keep _ _ eL F.own, rL⟩, fun n c e => ?_, E.grow _ _ eL F.own, fun n c e => ?_, F.above, F.abovec, F.apart⟩
  · obtain ⟨o, e1, r1⟩ := F.cell n c e; exact ⟨o, E.keep _ _ e1 (F.ownc n c e), r1⟩
  · obtain ⟨o, e1, r1⟩ := F.cell n c e; exact E.grow _ _ e1 (F.ownc n c e)

theorem SimL.ext {C env ρ H s H' s'} (S : SimL C env ρ H s) (S' : Sim C H' s') (E : Ext H s.heap H' s'.heap) : SimL C env ρ H' s' := by
  obtain ⟨m, cm, F, r⟩ := S.frm
  exact ⟨S', S.kind, S.globals, S.builtins, m, cm, F.ext E, fun x v e => (r x v e).extV E.v⟩

/-- what a statement may change besides: its own frame -/
structure ExtF (env : Env) (H : Hp) (h : Heap) (H' : Hp) (h' : Heap) : Prop where
  keep : ∀ a o, h.get? a = some o → H a = none → a ≠ env.locals → (∀ n, env.cells.lookup n ≠ some a) → h'.get? a = some o
  grow : ∀ a o, h.get? a = some o → H a = none → H' a = none
  live : ∀ a o, h.get? a = some o → ∃ o', h'.get? a = some o'

theorem Ext.toF {env H h H' h'} (x : Ext H h H' h') : ExtF env H h H' h' := ⟨fun a o e n _ _ => x.keep a o e n, x.grow, x.live⟩
theorem ExtF.refl (env : Env) (H : Hp) (h : Heap) : ExtF env H h H h := (Ext.refl H h).toF
theorem ExtF.trans {env H h H' h' H'' h''} (x : ExtF env H h H' h') (y : ExtF env H' h' H'' h'') : ExtF env H h H'' h'' := by
  refine ⟨fun a o e n n1 n2 => y.keep a o (x.keep a o e n n1 n2) (x.grow a o e n) n1 n2, fun a o e n => ?_, fun a o e => ?_⟩
  · obtain ⟨o', e'⟩ := x.live a o e; exact y.grow a o' e' (x.grow a o e n)
  · obtain ⟨o', e'⟩ := x.live a o e; exact y.live a o' e'

def Post {α β : Type} (C : Cx) (H : Hp) (h : Heap) (rel : Heap → Hp → β → α → Prop) (Q : β → Hp → Prop) : α → Shared → Prop :=
  fun x s' => ∃ v H', Q v H' ∧ Sim C H' s' ∧ rel s'.heap H' v x ∧ Ext H h H' s'.heap

theorem Post.after {α β : Type} {C : Cx} {H H₁ : Hp} {h h₁ : Heap} {rel : Heap → Hp → β → α → Prop} {Q : β → Hp → Prop} (E : Ext H h H₁ h₁) {x : α} {s' : Shared} (p : Post C H₁ h₁ rel Q x s') : Post C H h rel Q x s' :=
  let ⟨v, H', q, S, r, E'⟩ := p; ⟨v, H', q, S, r, E.trans E'⟩

/-- the room that a call at level k has -/
structure Lv (C : Cx) (k : Nat) (A : Around) : Prop where
  handled : C.hd = true → A.handled = none
  depth : A.depth + 2 * k + 100 < recursionLimit
  units : A.units + 40 * k + 100 < cLine

def BRel (_ : Heap) (_ : Hp) (b x : Bool) : Prop := b = x

def EvalW (C : Cx) (k : Nat) (env : Env) (e : Expr) (Q R : V → Hp → Prop) (ρ : Rho) (H : Hp) : Prop :=
  ∀ A, Lv C k A → ∀ s, SimL C env ρ H s → wpAny C.M A (eval e env) (Post C H s.heap VRel Q) (Post C H s.heap VRel R) s
def TestW (C : Cx) (k : Nat) (env : Env) (e : Expr) (Q : Bool → Hp → Prop) (R : V → Hp → Prop) (ρ : Rho) (H : Hp) : Prop :=
  ∀ A, Lv C k A → ∀ s, SimL C env ρ H s → wpAny C.M A (isTrue e env (eval e env)) (Post C H s.heap BRel Q) (Post C H s.heap VRel R) s
def BinW (C : Cx) (k : Nat) (op : Operator) (v w : V) (Q R : V → Hp → Prop) (H : Hp) : Prop :=
  ∀ A, Lv C k A → ∀ s x y, Sim C H s → VRel s.heap H v x → VRel s.heap H w y → wpAny C.M A (binaryOp op x y) (Post C H s.heap VRel Q) (Post C H s.heap VRel R) s
def CmpW (C : Cx) (k : Nat) (op : CmpOp) (v w : V) (Q R : V → Hp → Prop) (H : Hp) : Prop :=
  ∀ A, Lv C k A → ∀ s x y, Sim C H s → VRel s.heap H v x → VRel s.heap H w y → wpAny C.M A (compareOp op x y) (Post C H s.heap VRel Q) (Post C H s.heap VRel R) s
def TruthW (C : Cx) (k : Nat) (v : V) (Q : Bool → Hp → Prop) (R : V → Hp → Prop) (H : Hp) : Prop :=
  ∀ A, Lv C k A → ∀ s x, Sim C H s → VRel s.heap H v x → wpAny C.M A (truthy x) (Post C H s.heap BRel Q) (Post C H s.heap VRel R) s
def CallW (C : Cx) (k : Nat) (f : Value) (args : List V) (Q R : V → Hp → Prop) (H : Hp) : Prop :=
  ∀ A, Lv C k A → ∀ s xs, Sim C H s → VRelL s.heap H args xs → wpAny C.M A (call f xs) (Post C H s.heap VRel Q) (Post C H s.heap VRel R) s

end Mine

set_option Elab.async false
set_option linter.unusedVariables false
namespace Mine
open PySem PyProof.Rows

theorem Sim.toks {C H s} (S : Sim C H s) (t : Nat) : Sim C H { s with toks := t } := ⟨S.keep, S.gens, S.os, S.objs, S.new⟩
theorem SimL.toks {C env ρ H s} (S : SimL C env ρ H s) (t : Nat) : SimL C env ρ H { s with toks := t } := ⟨S.sim.toks t, S.kind, S.globals, S.builtins, S.frm⟩

theorem Post.here {α β : Type} {C : Cx} {H : Hp} {h : Heap} {rel : Heap → Hp → β → α → Prop} {Q : β → Hp → Prop} {x : α} {v : β} {s' : Shared}
    (q : Q v H) (S : Sim C H s') (r : rel s'.heap H v x) (e : s'.heap = h) : Post C H h rel Q x s' := ⟨v, H, q, S, r, e ▸ Ext.refl _ _⟩

variable {C : Cx} {k : Nat} {env : Env} {ρ : Rho} {H : Hp} {Q R : V → Hp → Prop} {QB : Bool → Hp → Prop}

theorem EvalW.none {c p} (h : Q .none H) : EvalW C k env (.Constant .none c p) Q R ρ H :=
  fun _ _ _ S => wpAny_pure (Post.here h S.sim .none rfl)
theorem EvalW.bool {b c p} (h : Q (.bool b) H) : EvalW C k env (.Constant (.bool b) c p) Q R ρ H :=
  fun _ _ _ S => wpAny_pure (Post.here h S.sim (.bool b) rfl)
theorem EvalW.int {i c p} (h : Q (.int i) H) : EvalW C k env (.Constant (.int i) c p) Q R ρ H :=
  fun _ _ _ S => wpAny_Constant_int (Post.here h (S.toks _).sim (.int i _) rfl)
theorem EvalW.str {x c p} (h : Q (.str x) H) : EvalW C k env (.Constant (.str x) c p) Q R ρ H :=
  fun _ _ _ S => wpAny_mkText (Post.here h (S.toks _).sim (.str x _) rfl)

theorem EvalW.local_ {x p v} (hv : ρ x = some v) (h : Q v H) (hk : env.kindOf x = some .local) (hd : (x == ("__debug__" : Str)) = false := by decide) :
    EvalW C k env (.Name x p) Q R ρ H := fun _ _ s S => by
  obtain ⟨m, cm, F, r⟩ := S.frm
  have := r x v hv
  unfold LocRel at this
  rw [hk] at this
  obtain ⟨u, hm, ru⟩ := this
  exact wpAny_Name (wpAny_loadName_local S.kind hk F.ns hm (Post.here h S.sim ru rfl)) hd
theorem EvalW.cell {x p v} (hv : ρ x = some v) (h : Q v H) (hk : env.kindOf x = some .cell) (hd : (x == ("__debug__" : Str)) = false := by decide) :
    EvalW C k env (.Name x p) Q R ρ H := fun _ _ s S => by
  obtain ⟨m, cm, F, r⟩ := S.frm
  have := r x v hv
  unfold LocRel at this
  rw [hk] at this
  obtain ⟨u, c, hc, hm, ru⟩ := this
  exact wpAny_Name (wpAny_loadName_cell S.kind hk hc (hm ▸ F.cell x c hc) (Post.here h S.sim ru rfl)) hd
theorem EvalW.free {x p v} (hv : ρ x = some v) (h : Q v H) (hk : env.kindOf x = some .free) (hd : (x == ("__debug__" : Str)) = false := by decide) (hn : (x == ("__classdict__" : Str)) = false := by decide) :
    EvalW C k env (.Name x p) Q R ρ H := fun _ _ s S => by
  obtain ⟨m, cm, F, r⟩ := S.frm
  have := r x v hv
  unfold LocRel at this
  rw [hk] at this
  obtain ⟨u, c, hc, hm, ru⟩ := this
  exact wpAny_Name (wpAny_loadName_free S.kind hk hc (hm ▸ F.cell x c hc) (Post.here h S.sim ru rfl) hn) hd

/-- a global name of the text, or a builtin -/
def GlobalIs (C : Cx) (x : Str) (v : Value) : Prop :=
  (∃ mg, C.base.Ns mainGlobals mg ∧ mg x = some v) ∨ (∃ mg mb, C.base.Ns mainGlobals mg ∧ mg x = none ∧ C.base.Ns builtinsNs mb ∧ mb x = some v)
def GlobalV (C : Cx) (x : Str) (v : V) : Prop := ∃ u, GlobalIs C x u ∧ ∀ h H, VRel h H v u
theorem GlobalIs.con {x v} (g : GlobalIs C x v) : GlobalV C x (.con v) := ⟨v, g, fun _ _ => .con v⟩

theorem EvalW.global {x p v} (g : GlobalV C x v) (h : Q v H) (hk : env.kindOf x = some .globalImplicit) (hd : (x == ("__debug__" : Str)) = false := by decide) :
    EvalW C k env (.Name x p) Q R ρ H := fun _ _ s S => by
  obtain ⟨u, g, r⟩ := g
  refine Calls.Name_function_global S.kind hk ?_ hd
  rcases g with ⟨mg, g1, g2⟩ | ⟨mg, mb, g1, g2, g3, g4⟩
  · exact Calls.loadGlobal_global (by rw [S.globals]; exact g1.keeps S.sim.keep) g2 (Post.here h S.sim (r _ _) rfl)
  · exact Calls.loadGlobal_builtin (by rw [S.globals]; exact g1.keeps S.sim.keep) g2 (by rw [S.builtins]; exact g3.keeps S.sim.keep) g4 (Post.here h S.sim (r _ _) rfl)

/-- chaining: behind a first part -/
theorem wp_go {α β : Type} {C : Cx} {A : Around} {H : Hp} {s : Shared} {rel : Heap → Hp → β → α → Prop} {m : Sem α} {Q : β → Hp → Prop} {R : V → Hp → Prop} {P : α → Shared → Prop} {PE : Value → Shared → Prop}
    (h : wpAny C.M A m (Post C H s.heap rel Q) (Post C H s.heap VRel R) s)
    (h' : ∀ x v H₁ s₁, Q v H₁ → Sim C H₁ s₁ → rel s₁.heap H₁ v x → Ext H s.heap H₁ s₁.heap → P x s₁)
    (hE : ∀ e s₁, Post C H s.heap VRel R e s₁ → PE e s₁ := by intro _ _ p; exact p) : wpAny C.M A m P PE s :=
  wpAny_mono h (fun x s₁ ⟨v, H₁, q, S₁, r, E⟩ => h' x v H₁ s₁ q S₁ r E) hE
theorem wp_fin {α β : Type} {C : Cx} {A : Around} {H H₁ : Hp} {s₁ : Shared} {h : Heap} {rel : Heap → Hp → β → α → Prop} {m : Sem α} {Q : β → Hp → Prop} {R : V → Hp → Prop} (E : Ext H h H₁ s₁.heap)
    (x : wpAny C.M A m (Post C H₁ s₁.heap rel Q) (Post C H₁ s₁.heap VRel R) s₁) : wpAny C.M A m (Post C H h rel Q) (Post C H h VRel R) s₁ :=
  wpAny_mono x (fun _ _ p => p.after E) fun _ _ p => p.after E

theorem EvalW.binop {l op r p} (h : EvalW C k env l (fun v H₁ => EvalW C k env r (fun w H₂ => BinW C k op v w Q R H₂) R ρ H₁) R ρ H) :
    EvalW C k env (.BinOp l op r p) Q R ρ H := fun A a s S =>
  wpAny_BinOp (wp_go (h A a s S) fun x v H₁ s₁ h₁ S₁ r₁ E₁ => wp_go (h₁ A a s₁ (S.ext S₁ E₁)) (fun y w H₂ s₂ h₂ S₂ r₂ E₂ => wp_fin (E₁.trans E₂) (h₂ A a s₂ x y S₂ (r₁.ext E₂) r₂)) fun _ _ p => p.after E₁)
theorem EvalW.compare {l op r p} (h : EvalW C k env l (fun v H₁ => EvalW C k env r (fun w H₂ => CmpW C k op v w Q R H₂) R ρ H₁) R ρ H)
    (hm : behindInMarks op r = false := by with_unfolding_all rfl) :
    EvalW C k env (.Compare l [op] [r] p) Q R ρ H := fun A a s S =>
  wpAny_Compare1 (wp_go (h A a s S) fun x v H₁ s₁ h₁ S₁ r₁ E₁ => wp_go (h₁ A a s₁ (S.ext S₁ E₁)) (fun y w H₂ s₂ h₂ S₂ r₂ E₂ => wp_fin (E₁.trans E₂) (h₂ A a s₂ x y S₂ (r₁.ext E₂) r₂)) fun _ _ p => p.after E₁) hm
theorem TestW.compare {l op r p} (h : EvalW C k env l (fun v H₁ => EvalW C k env r (fun w H₂ => CmpW C k op v w (fun u H₃ => TruthW C k u QB R H₃) R H₂) R ρ H₁) R ρ H)
    (hm : behindInMarks op r = false := by with_unfolding_all rfl) :
    TestW C k env (.Compare l [op] [r] p) QB R ρ H := fun A a s S =>
  wpAny_isTrue_Compare1 (wp_go (h A a s S) fun x v H₁ s₁ h₁ S₁ r₁ E₁ => wp_go (h₁ A a s₁ (S.ext S₁ E₁)) (fun y w H₂ s₂ h₂ S₂ r₂ E₂ =>
    wp_go (h₂ A a s₂ x y S₂ (r₁.ext E₂) r₂) (fun z u H₃ s₃ h₃ S₃ r₃ E₃ => wp_fin ((E₁.trans E₂).trans E₃) (h₃ A a s₃ z S₃ r₃)) fun _ _ p => p.after (E₁.trans E₂)) fun _ _ p => p.after E₁) hm

theorem TestW.not {x p} (h : TestW C k env x (fun b H₁ => QB (!b) H₁) R ρ H) : TestW C k env (.UnaryOp .Not x p) QB R ρ H := fun A a s S =>
  isTrue_not (wpAny_mono (h A a s S) (fun b s' ⟨v, H', q, S', r, E⟩ => ⟨!v, H', q, S', by unfold BRel at *; rw [r], E⟩) fun _ _ x => x)
theorem TestW.and_nil {p} (h : QB true H) : TestW C k env (.BoolOp .And [] p) QB R ρ H := fun A a s S => isTrue_and_nil (Post.here h S.sim rfl rfl)
theorem TestW.or_nil {p} (h : QB false H) : TestW C k env (.BoolOp .Or [] p) QB R ρ H := fun A a s S => isTrue_or_nil (Post.here h S.sim rfl rfl)
theorem TestW.and {x rest p} (h : TestW C k env x (fun b H₁ => if b = true then TestW C k env (.BoolOp .And rest p) QB R ρ H₁ else QB false H₁) R ρ H) :
    TestW C k env (.BoolOp .And (x :: rest) p) QB R ρ H := fun A a s S => by
  refine isTrue_and (wpAny_mono (h A a s S) ?_ fun _ _ x => x)
  rintro b s' ⟨v, H', q, S', rfl, E⟩
  cases v
  · simp only [Bool.false_eq_true, if_false] at q ⊢; exact ⟨false, H', q, S', rfl, E⟩
  · simp only [if_true] at q ⊢; exact wpAny_mono (q A a s' (S.ext S' E)) (fun _ _ p => p.after E) fun _ _ p => p.after E
theorem TestW.or {x rest p} (h : TestW C k env x (fun b H₁ => if b = true then QB true H₁ else TestW C k env (.BoolOp .Or rest p) QB R ρ H₁) R ρ H) :
    TestW C k env (.BoolOp .Or (x :: rest) p) QB R ρ H := fun A a s S => by
  refine isTrue_or (wpAny_mono (h A a s S) ?_ fun _ _ x => x)
  rintro b s' ⟨v, H', q, S', rfl, E⟩
  cases v
  · simp only [Bool.false_eq_true, if_false] at q ⊢; exact wpAny_mono (q A a s' (S.ext S' E)) (fun _ _ p => p.after E) fun _ _ p => p.after E
  · simp only [if_true] at q ⊢; exact ⟨true, H', q, S', rfl, E⟩
theorem TestW.plain {e} (h : EvalW C k env e (fun v H₁ => TruthW C k v QB R H₁) R ρ H)
    (he : ∀ whole, isTrue e env whole = (do let v ← whole; standAt e.pos; holding [v] (truthy v)) := by intro; rfl) : TestW C k env e QB R ρ H := fun A a s S =>
  isTrue_plain (wp_go (h A a s S) fun x v H₁ s₁ h₁ S₁ r₁ E₁ => wp_fin E₁ (h₁ A a s₁ x S₁ r₁)) (he _)

theorem EvalW.not {x p} (h : EvalW C k env x (fun v H₁ => TruthW C k v (fun b H₂ => Q (.bool (!b)) H₂) R H₁) R ρ H) : EvalW C k env (.UnaryOp .Not x p) Q R ρ H := fun A a s S => by
  refine UnaryOp_ (wp_go (h A a s S) fun x v H₁ s₁ h₁ S₁ r₁ E₁ => not_of (wpAny_mono (h₁ A a s₁ x S₁ r₁) ?_ fun _ _ p => p.after E₁))
  rintro c s' ⟨v, H', q, S', rfl, E⟩
  exact ⟨_, H', q, S', .bool _, E₁.trans E⟩
theorem EvalW.and_one {op e p} (h : EvalW C k env e Q R ρ H) : EvalW C k env (.BoolOp op [e] p) Q R ρ H := fun A a s S => BoolOp_one (h A a s S)
theorem EvalW.and {e₁ e₂ rest p} (h : EvalW C k env e₁ (fun v H₁ => TruthW C k v (fun b H₂ => if b = true then EvalW C k env (.BoolOp .And (e₂ :: rest) p) Q R ρ H₂ else Q v H₂) R H₁) R ρ H) :
    EvalW C k env (.BoolOp .And (e₁ :: e₂ :: rest) p) Q R ρ H := fun A a s S => by
  refine BoolOp_and (wpAny_mono (h A a s S) ?_ fun _ _ x => x)
  rintro x s₁ ⟨v, H₁, h₁, S₁, r₁, E₁⟩
  refine wpAny_mono (h₁ A a s₁ x S₁ r₁) ?_ fun _ _ p => p.after E₁
  rintro b s' ⟨b', H', q, S', rfl, E⟩
  cases b'
  · simp only [Bool.false_eq_true, if_false] at q ⊢; exact ⟨v, H', q, S', r₁.ext E, E₁.trans E⟩
  · simp only [if_true] at q ⊢; exact wpAny_mono (q A a s' (S.ext S' (E₁.trans E))) (fun _ _ p => p.after (E₁.trans E)) fun _ _ p => p.after (E₁.trans E)
theorem EvalW.or {e₁ e₂ rest p} (h : EvalW C k env e₁ (fun v H₁ => TruthW C k v (fun b H₂ => if b = true then Q v H₂ else EvalW C k env (.BoolOp .Or (e₂ :: rest) p) Q R ρ H₂) R H₁) R ρ H) :
    EvalW C k env (.BoolOp .Or (e₁ :: e₂ :: rest) p) Q R ρ H := fun A a s S => by
  refine BoolOp_or (wpAny_mono (h A a s S) ?_ fun _ _ x => x)
  rintro x s₁ ⟨v, H₁, h₁, S₁, r₁, E₁⟩
  refine wpAny_mono (h₁ A a s₁ x S₁ r₁) ?_ fun _ _ p => p.after E₁
  rintro b s' ⟨b', H', q, S', rfl, E⟩
  cases b'
  · simp only [Bool.false_eq_true, if_false] at q ⊢; exact wpAny_mono (q A a s' (S.ext S' (E₁.trans E))) (fun _ _ p => p.after (E₁.trans E)) fun _ _ p => p.after (E₁.trans E)
  · simp only [if_true] at q ⊢; exact ⟨v, H', q, S', r₁.ext E, E₁.trans E⟩

end Mine

set_option Elab.async false
set_option linter.unusedVariables false
namespace Mine
open PySem PyProof.Rows

theorem get_eq_of {h h' : Heap} {b a : Addr} {o : Obj} (hk : ∀ a o, a ≠ b → h.get? a = some o → h'.get? a = some o) (n : a ≠ b) (e : h.get? a = some o) : h'.get? a = h.get? a := (hk a o n e).trans e.symm

/-- an object that is neither owned nor list nor tuple is changed; others may be new -/
theorem Sim.touch {C : Cx} {H : Hp} {s s' : Shared} {b : Addr} {ob : Obj} (S : Sim C H s) (hb : s.heap.get? b = some ob) (nb : ∀ xs n, ob.data ≠ .seq xs n) (Hb : H b = none) (new : C.base.get? b = none)
    (hk : ∀ a o, a ≠ b → s.heap.get? a = some o → s'.heap.get? a = some o) (hg : s'.gens = s.gens) (ho : s'.os = s.os) : Sim C H s' := by
  refine ⟨fun a o e => hk a o (fun q => ?_) (S.keep a o e), hg.trans S.gens, ho.trans S.os, fun a o e => ?_, S.new⟩
  · subst q; rw [new] at e; cases e
  · have r := S.objs a o e
    obtain ⟨ob', e'⟩ := r.lt
    exact r.same (ExtV.but hb nb hk) (get_eq_of hk (fun q => by subst q; rw [Hb] at e; cases e) e')

theorem ns_noseq {h : Heap} {L : Addr} {m} (n : h.Ns L m) : ∃ o, h.get? L = some o ∧ ∀ xs n, o.data ≠ .seq xs n := by
  obtain ⟨o, es, ep, e, d, _⟩ := n
  exact ⟨o, e, fun xs n q => by rw [d] at q; cases q⟩
theorem cell_noseq {h : Heap} {c : Addr} {v} (n : h.IsCell c v) : ∃ o, h.get? c = some o ∧ ∀ xs n, o.data ≠ .seq xs n := by
  obtain ⟨o, e, d⟩ := n
  exact ⟨o, e, fun xs n q => by rw [d] at q; cases q⟩

inductive Fl where
  | next | brk | cont
  | ret (v : V)

def FlRel (h : Heap) (H : Hp) : Fl → Flow → Prop
  | .next, .next => True
  | .brk, .brk => True
  | .cont, .cont => True
  | .ret v, .ret x => VRel h H v x
  | _, _ => False

def PostS (C : Cx) (env : Env) (H : Hp) (h : Heap) (Q : Fl → Rho → Hp → Prop) : Flow → Shared → Prop :=
  fun f s' => ∃ fl ρ' H', Q fl ρ' H' ∧ FlRel s'.heap H' fl f ∧ SimL C env ρ' H' s' ∧ ExtF env H h H' s'.heap
def PostX (C : Cx) (env : Env) (H : Hp) (h : Heap) (R : V → Rho → Hp → Prop) : Value → Shared → Prop :=
  fun e s' => ∃ v ρ' H', R v ρ' H' ∧ VRel s'.heap H' v e ∧ SimL C env ρ' H' s' ∧ ExtF env H h H' s'.heap
theorem PostS.after {C : Cx} {env : Env} {H H₁ : Hp} {h h₁ : Heap} {Q : Fl → Rho → Hp → Prop} (E : ExtF env H h H₁ h₁) {x : Flow} {s' : Shared} (p : PostS C env H₁ h₁ Q x s') : PostS C env H h Q x s' :=
  let ⟨v, ρ, H', q, r, S, E'⟩ := p; ⟨v, ρ, H', q, r, S, E.trans E'⟩
theorem PostX.after {C : Cx} {env : Env} {H H₁ : Hp} {h h₁ : Heap} {R : V → Rho → Hp → Prop} (E : ExtF env H h H₁ h₁) {x : Value} {s' : Shared} (p : PostX C env H₁ h₁ R x s') : PostX C env H h R x s' :=
  let ⟨v, ρ, H', q, r, S, E'⟩ := p; ⟨v, ρ, H', q, r, S, E.trans E'⟩

def ExecW (C : Cx) (k : Nat) (env : Env) (st : Stmt) (Q : Fl → Rho → Hp → Prop) (R : V → Rho → Hp → Prop) (ρ : Rho) (H : Hp) : Prop :=
  ∀ A, Lv C k A → ∀ s, SimL C env ρ H s → wpAny C.M A (exec st env) (PostS C env H s.heap Q) (PostX C env H s.heap R) s
def ExecsW (C : Cx) (k : Nat) (env : Env) (st : List Stmt) (Q : Fl → Rho → Hp → Prop) (R : V → Rho → Hp → Prop) (ρ : Rho) (H : Hp) : Prop :=
  ∀ A, Lv C k A → ∀ s, SimL C env ρ H s → wpAny C.M A (execs st env) (PostS C env H s.heap Q) (PostX C env H s.heap R) s

/-- an expression's raise, seen by its statement -/
theorem Post.toX {C : Cx} {env : Env} {ρ : Rho} {H : Hp} {s : Shared} {R : V → Rho → Hp → Prop} (S : SimL C env ρ H s) {e : Value} {s' : Shared} (p : Post C H s.heap VRel (fun v H' => R v ρ H') e s') : PostX C env H s.heap R e s' :=
  let ⟨v, H', q, S', r, E⟩ := p; ⟨v, ρ, H', q, r, S.ext S' E, E.toF⟩

variable {C : Cx} {k : Nat} {env : Env} {ρ : Rho} {H : Hp} {Q : Fl → Rho → Hp → Prop} {R : V → Rho → Hp → Prop}

theorem ExecsW.nil (h : Q .next ρ H) : ExecsW C k env [] Q R ρ H := fun A a s S => wpAny_execs_nil ⟨.next, ρ, H, h, trivial, S, ExtF.refl _ _ _⟩

/-- behind a statement -/
def Cont (C : Cx) (k : Nat) (env : Env) (rest : List Stmt) (Q : Fl → Rho → Hp → Prop) (R : V → Rho → Hp → Prop) : Fl → Rho → Hp → Prop
  | .next, ρ, H => ExecsW C k env rest Q R ρ H
  | f, ρ, H => Q f ρ H

theorem ExecsW.cons {st rest} (h : ExecW C k env st (Cont C k env rest Q R) R ρ H) : ExecsW C k env (st :: rest) Q R ρ H := fun A a s S => by
  refine wpAny_execs_cons (wpAny_mono (h A a s S) ?_ fun _ _ x => x)
  rintro f s' ⟨fl, ρ', H', q, r, S', E⟩
  cases fl <;> cases f <;> first | exact r.elim | skip
  · exact wpAny_mono (q A a s' S') (fun _ _ p => p.after E) fun _ _ p => p.after E
  · exact ⟨.brk, ρ', H', q, r, S', E⟩
  · exact ⟨.cont, ρ', H', q, r, S', E⟩
  · exact ⟨.ret _, ρ', H', q, r, S', E⟩

theorem ExecW.pass {p} (h : Q .next ρ H) : ExecW C k env (.Pass p) Q R ρ H := fun A a s S => wpAny_Pass ⟨.next, ρ, H, h, trivial, S, ExtF.refl _ _ _⟩
theorem ExecW.ret {e p} (h : EvalW C k env e (fun v H' => Q (.ret v) ρ H') (fun v H' => R v ρ H') ρ H) : ExecW C k env (.Return (some e) p) Q R ρ H := fun A a s S =>
  wpAny_Return_some (wpAny_mono (h A a s S) (fun x s' ⟨v, H', q, S', r, E⟩ => ⟨.ret v, ρ, H', q, r, S.ext S' E, E.toF⟩) fun _ _ p => p.toX S)
theorem ExecW.if_ {t b o p} (h : TestW C k env t (fun c H' => if c = true then ExecsW C k env b Q R ρ H' else ExecsW C k env o Q R ρ H') (fun v H' => R v ρ H') ρ H) : ExecW C k env (.If t b o p) Q R ρ H := fun A a s S => by
  refine wpAny_If (wpAny_mono (h A a s S) ?_ fun _ _ p => p.toX S)
  rintro c s' ⟨c', H', q, S', rfl, E⟩
  cases c'
  · simp only [Bool.false_eq_true, if_false] at q ⊢; exact wpAny_mono (q A a s' (S.ext S' E)) (fun _ _ p => p.after E.toF) fun _ _ p => p.after E.toF
  · simp only [if_true] at q ⊢; exact wpAny_mono (q A a s' (S.ext S' E)) (fun _ _ p => p.after E.toF) fun _ _ p => p.after E.toF

/-- storing a name -/
theorem store_local {A : Around} {E : Value → Shared → Prop} {x : Str} {v : V} {u : Value} {s : Shared} {P : Unit → Shared → Prop} (hk : env.kindOf x = some .local) (S : SimL C env ρ H s) (r : VRel s.heap H v u)
    (h : ∀ s', SimL C env (ρ.set x v) H s' → ExtF env H s.heap H s'.heap → (∀ a o, a ≠ env.locals → s.heap.get? a = some o → s'.heap.get? a = some o) → s'.gens = s.gens → P () s') : wpAny C.M A (storeName env x u) P E s := by
  obtain ⟨m, cm, F, rr⟩ := S.frm
  refine wpAny_storeName_local hk F.ns (fun h' hn hs => ?_) (by rw [S.kind]; rfl)
  obtain ⟨oL, eL, nL⟩ := ns_noseq F.ns
  have hk' : ∀ a o, a ≠ env.locals → s.heap.get? a = some o → h'.get? a = some o := fun a o n e => hs.extBut a o n e
  have S1 : Sim C H { s with heap := h', toks := s.toks + 1 } := S.sim.touch (s' := { s with heap := h', toks := s.toks + 1 }) eL nL F.own F.above hk' rfl rfl
  have V1 : ExtV H s.heap H h' := ExtV.but eL nL hk'
  obtain ⟨oL', eL', _⟩ := ns_noseq hn
  refine h _ ⟨S1, S.kind, S.globals, S.builtins, _, cm, ⟨hn, fun n c e => ?_, F.own, F.ownc, F.above, F.abovec, F.apart⟩, fun y w e => ?_⟩ ⟨fun a o e _ n _ => hk' a o n e, fun a o e n => n, fun a o e => ?_⟩ hk' rfl
  · have := F.cell n c e
    refine this.sameBut hs fun q => ?_
    obtain ⟨oc, ec, dc⟩ := this
    subst q; obtain ⟨o, es, ep, e1, d1, _⟩ := F.ns; rw [e1] at ec; cases ec; rw [d1] at dc; cases dc
  · unfold Rho.set at e
    unfold LocRel
    by_cases q : y = x
    · subst q
      rw [if_pos rfl] at e; cases e
      rw [hk]; exact ⟨u, by simp, r.extV V1⟩
    · rw [if_neg q] at e
      have := (rr y w e).extV V1
      unfold LocRel at this
      split at this
      · obtain ⟨u', a, b⟩ := this; exact ⟨u', by simp [q, a], b⟩
      · exact this
      · exact this
      · trivial
  · by_cases q : a = env.locals
    · subst q; exact ⟨oL', eL'⟩
    · exact ⟨o, hk' a o q e⟩
theorem store_cell {A : Around} {E : Value → Shared → Prop} {x : Str} {v : V} {u : Value} {s : Shared} {P : Unit → Shared → Prop} (hk : env.kindOf x = some .cell) (hc : (env.cells.lookup x).isSome = true) (S : SimL C env ρ H s) (r : VRel s.heap H v u)
    (h : ∀ s', SimL C env (ρ.set x v) H s' → ExtF env H s.heap H s'.heap → (∀ a o, (∀ n, env.cells.lookup n ≠ some a) → s.heap.get? a = some o → s'.heap.get? a = some o) → s'.gens = s.gens → P () s') : wpAny C.M A (storeName env x u) P E s := by
  obtain ⟨m, cm, F, rr⟩ := S.frm
  obtain ⟨c, hc⟩ := Option.isSome_iff_exists.mp hc
  refine wpAny_storeName_cell S.kind hk hc (F.cell x c hc) (fun h' hn hs => ?_)
  obtain ⟨oL, eL, nL⟩ := cell_noseq (F.cell x c hc)
  have hk' : ∀ a o, a ≠ c → s.heap.get? a = some o → h'.get? a = some o := fun a o n e => hs.extBut a o n e
  have S1 : Sim C H { s with heap := h' } := S.sim.touch (s' := { s with heap := h' }) eL nL (F.ownc x c hc) (F.abovec x c hc) hk' rfl rfl
  have V1 : ExtV H s.heap H h' := ExtV.but eL nL hk'
  obtain ⟨oL', eL', _⟩ := cell_noseq hn
  refine h _ ⟨S1, S.kind, S.globals, S.builtins, m, fun y => if y = x then some u else cm y, ⟨?_, fun n c' e => ?_, F.own, F.ownc, F.above, F.abovec, F.apart⟩, fun y w e => ?_⟩ ⟨fun a o e _ _ n => hk' a o (fun q => n x (q ▸ hc)) e, fun a o e n => n, fun a o e => ?_⟩ (fun a o n e => hk' a o (fun q => n x (q ▸ hc)) e) rfl
  · refine F.ns.sameBut hs fun q => ?_
    obtain ⟨oc, ec, dc⟩ := F.cell x c hc
    obtain ⟨o, es, ep, e1, d1, _⟩ := F.ns; rw [← q, e1] at ec; cases ec; rw [d1] at dc; cases dc
  · by_cases q : n = x
    · subst q; rw [hc] at e; cases e; simpa using hn
    · rw [if_neg q]
      exact (F.cell n c' e).sameBut hs fun q' => q (F.apart n x c (q' ▸ e) hc)
  · unfold Rho.set at e
    unfold LocRel
    by_cases q : y = x
    · subst q
      rw [if_pos rfl] at e; cases e
      rw [hk]; exact ⟨u, c, hc, by simp, r.extV V1⟩
    · rw [if_neg q] at e
      have := (rr y w e).extV V1
      unfold LocRel at this
      split at this
      · exact this
      · obtain ⟨u', c', a, b, d⟩ := this; exact ⟨u', c', a, by simp [q, b], d⟩
      · obtain ⟨u', c', a, b, d⟩ := this; exact ⟨u', c', a, by simp [q, b], d⟩
      · trivial
  · by_cases q : a = c
    · subst q; exact ⟨oL', eL'⟩
    · exact ⟨o, hk' a o q e⟩

/-- a name that a frame can store -/
def Storable (env : Env) (x : Str) : Prop := env.kindOf x = some .local ∨ (env.kindOf x = some .cell ∧ (env.cells.lookup x).isSome = true)
theorem store_W {A : Around} {E : Value → Shared → Prop} {x : Str} {v : V} {u : Value} {s : Shared} {P : Unit → Shared → Prop} (hk : Storable env x) (S : SimL C env ρ H s) (r : VRel s.heap H v u)
    (h : ∀ s', SimL C env (ρ.set x v) H s' → ExtF env H s.heap H s'.heap → s'.gens = s.gens → P () s') : wpAny C.M A (storeName env x u) P E s := by
  rcases hk with hk | ⟨hk, hc⟩
  · exact store_local hk S r fun s' a b _ d => h s' a b d
  · exact store_cell hk hc S r fun s' a b _ d => h s' a b d

theorem ExecW.assign {x p' e p} (hk : Storable env x) (h : EvalW C k env e (fun v H' => Q .next (ρ.set x v) H') (fun v H' => R v ρ H') ρ H)
    (hs : swapsWith e (some (.Name x p')) p.line env = pure false := by rfl) : ExecW C k env (.Assign [.Name x p'] e p) Q R ρ H := fun A a s S => by
  refine wpAny_Assign_Name (wpAny_mono (h A a s S) ?_ fun _ _ p => p.toX S) hs
  rintro u s' ⟨v, H', q, S', r, E⟩
  exact store_W hk (S.ext S' E) r fun s'' S'' E'' _ => ⟨.next, _, H', q, trivial, S'', E.toF.trans E''⟩

end Mine

set_option Elab.async false
set_option linter.unusedVariables false
namespace Mine
open PySem PyProof.Rows

/-- nothing old is changed; new objects may come -/
theorem Sim.grown {C : Cx} {H : Hp} {s s' : Shared} (S : Sim C H s) (hk : ∀ a o, s.heap.get? a = some o → s'.heap.get? a = some o) (hg : s'.gens = s.gens) (ho : s'.os = s.os) : Sim C H s' := by
  refine ⟨fun a o e => hk a o (S.keep a o e), hg.trans S.gens, ho.trans S.os, fun a o e => ?_, S.new⟩
  have r := S.objs a o e
  obtain ⟨ob', e'⟩ := r.lt
  exact r.same (fun a o _ _ e _ n => ⟨hk a o e, n⟩) ((hk a ob' e').trans e'.symm)
theorem Ext.grown {H : Hp} {h h' : Heap} (hk : ∀ a o, h.get? a = some o → h'.get? a = some o) : Ext H h H h' := ⟨fun a o e _ => hk a o e, fun _ _ _ n => n, fun a o e => ⟨o, hk a o e⟩⟩
theorem Sim.freshB {C : Cx} {H : Hp} {s : Shared} (S : Sim C H s) {a : Addr} (h : s.heap.objs.size ≤ a) : C.base.get? a = none := by
  cases e : C.base.get? a with
  | none => rfl
  | some o => exact absurd (Heap.lt_size (S.keep a o e)) (Nat.not_lt.mpr h)
theorem Sim.freshS {C : Cx} {H : Hp} {s : Shared} (S : Sim C H s) {a : Addr} (h : s.heap.objs.size ≤ a) : a ≠ sysModules := by
  obtain ⟨o, e⟩ := C.low
  have h1 := Heap.lt_size (S.keep _ _ e)
  have h2 : sysModules < cStatics := by decide
  intro q
  rw [q] at h
  exact absurd (Nat.lt_of_lt_of_le (Nat.lt_trans h2 h1) h) (Nat.lt_irrefl _)
theorem Sim.fresh {C : Cx} {H : Hp} {s : Shared} (S : Sim C H s) {a : Addr} (h : s.heap.objs.size ≤ a) : H a = none := by
  cases e : H a with
  | none => rfl
  | some o => obtain ⟨ob, e'⟩ := (S.objs a o e).lt; exact absurd (Heap.lt_size e') (Nat.not_lt.mpr h)

/-- re-abstraction: objects are let go of (frozen) -/
def Fz (H : Hp) (v v' : V) (H' : Hp) : Prop := (∀ a, H a = none → H' a = none) ∧ ∀ (C : Cx) (s : Shared) (x : Value), Sim C H s → VRel s.heap H v x → Sim C H' s ∧ VRel s.heap H' v' x
theorem Fz.refl {H v} : Fz H v v H := ⟨fun _ e => e, fun _ _ _ S r => ⟨S, r⟩⟩
theorem Fz.trans {H v H' v' H'' v''} (x : Fz H v v' H') (y : Fz H' v' v'' H'') : Fz H v v'' H'' :=
  ⟨fun a e => y.1 a (x.1 a e), fun C s u S r => let ⟨S1, r1⟩ := x.2 C s u S r; y.2 C s u S1 r1⟩
def Hp.le (H' H : Hp) : Prop := ∀ a o, H' a = some o → H a = some o
theorem Hp.le.none {H H' : Hp} (h : H'.le H) (a : Addr) (e : H a = Option.none) : H' a = Option.none := by
  cases q : H' a with
  | none => rfl
  | some o => rw [h a o q] at e; cases e
theorem ExtV.of_le {H H' : Hp} (h : H'.le H) (hp : Heap) : ExtV H hp H' hp := fun a o _ _ e _ n => ⟨e, h.none a n⟩
theorem Sim.le {C H H' s} (S : Sim C H s) (h : Hp.le H' H) : Sim C H' s :=
  ⟨S.keep, S.gens, S.os, fun a o e => (S.objs a o (h a o e)).same (ExtV.of_le h _) rfl, fun a e => S.new a fun q => e (h.none a q)⟩

mutual
inductive FzR (H : Hp) (D : Addr → Prop) : V → V → Prop
  | refl (v : V) : FzR H D v v
  | tup {l l' : List V} (h : FzRL H D l l') : FzR H D (.tup l) (.tup l')
  | lst {l l' : List V} (h : FzRL H D l l') : FzR H D (.lst l) (.lst l')
  | thaw {a : Addr} {l l' : List V} (hD : D a) (ha : H a = some (.list l)) (h : FzRL H D l l') : FzR H D (.ref a) (.lst l')
inductive FzRL (H : Hp) (D : Addr → Prop) : List V → List V → Prop
  | nil : FzRL H D [] []
  | cons {v v' : V} {l l' : List V} (h : FzR H D v v') (hl : FzRL H D l l') : FzRL H D (v :: l) (v' :: l')
end
mutual
theorem FzR.sound {C : Cx} {H H' : Hp} {D : Addr → Prop} {s : Shared} (S : Sim C H s) (hle : Hp.le H' H) (hD : ∀ a, D a → H' a = none) : ∀ {v v'}, FzR H D v v' → ∀ {x}, VRel s.heap H v x → VRel s.heap H' v' x
  | _, _, .refl v, x, r => r.extV (ExtV.of_le hle _)
  | _, _, .tup h, _, .tup ha ho hl => .tup ha (hle.none _ ho) (FzRL.sound S hle hD h hl)
  | _, _, .lst h, _, .lst ha ho hl => .lst ha (hle.none _ ho) (FzRL.sound S hle hD h hl)
  | _, _, .thaw (a := b) d ha h, x, rx => by
    obtain ⟨xs, e, r⟩ := S.objs _ _ ha
    have hx : x = .ref b := by cases rx; rfl
    subst hx
    exact .lst e.isList (hD _ d) (FzRL.sound S hle hD h r)
theorem FzRL.sound {C : Cx} {H H' : Hp} {D : Addr → Prop} {s : Shared} (S : Sim C H s) (hle : Hp.le H' H) (hD : ∀ a, D a → H' a = none) : ∀ {v v'}, FzRL H D v v' → ∀ {x}, VRelL s.heap H v x → VRelL s.heap H' v' x
  | _, _, .nil, _, .nil => .nil
  | _, _, .cons h hl, _, .cons r rl => .cons (FzR.sound S hle hD h r) (FzRL.sound S hle hD hl rl)
end
theorem Fz.of {H H' : Hp} {D : Addr → Prop} {v v' : V} (r : FzR H D v v') (hle : Hp.le H' H) (hD : ∀ a, D a → H' a = none) : Fz H v v' H' :=
  ⟨hle.none, fun C s x S rx => ⟨S.le hle, r.sound S hle hD rx⟩⟩
theorem Fz.drop {H H' : Hp} {v : V} (hle : Hp.le H' H) : Fz H v v H' := Fz.of (D := fun _ => False) (.refl v) hle fun _ h => h.elim

abbrev SpecT := List V → (V → Hp → Prop) → (V → Hp → Prop) → Hp → Prop

def PostC (C : Cx) (H : Hp) (h : Heap) (Q R : V → Hp → Prop) : Result → Shared → Prop := fun r s' => match r with
  | .ok (.ret x) => Post C H h VRel Q x s'
  | .ok _ => False
  | .error e => Post C H h VRel R e s'

def FnOK (C : Cx) (k : Nat) (f : Value) (S : SpecT) : Prop :=
  ∀ A, Lv C k A → ∀ s H args xs Q R, Sim C H s → VRelL s.heap H args xs → S args Q R H → codeAny C.M A (.call f ⟨xs, []⟩) (PostC C H s.heap Q R) s

theorem Lv.mono {C k k' A} (h : Lv C k A) (hk : k' ≤ k) : Lv C k' A := ⟨h.handled, by have := h.depth; omega, by have := h.units; omega⟩
theorem FnOK.mono {C k k' f S} (h : FnOK C k f S) (hk : k ≤ k') : FnOK C k' f S := fun A a => h A (a.mono hk)

theorem FnOK.call {C k f S} (h : FnOK C k f S) {args Q R H} (hs : S args Q R H) : CallW C k f args Q R H := fun A a s xs Sm r => by
  refine wpAny_call (codeAny_mono (h A a s H args xs Q R Sm r hs) fun r s' p => ?_)
  rcases r with e | (_ | _ | _ | v) <;> first | exact p | exact p.elim

def bindRho (ρ : Rho) : List Str → List V → Rho
  | n :: ns, v :: vs => bindRho (ρ.set n v) ns vs
  | _, _ => ρ

structure FnDef (C : Cx) (a : Addr) (fd : FuncData) (names : List Str) (body : List Stmt) : Prop where
  obj : ∃ o, C.base.get? a = some o ∧ o.data = .func fd
  limit : C.base.NoLimit
  code : C.base.CodeRec fd.code fd.qualname
  body : fd.body = .stmts body
  closure : fd.closure = []
  globals : fd.globals = mainGlobals
  builtins : fd.builtins = builtinsNs
  co : fd.scope.isCoroutine = false
  gen : fd.scope.isGenerator = false
  kind : fd.scope.kind = .function
  bind : ∀ vals : List Value, vals.length = names.length → bindArgs fd ⟨vals, []⟩ = pure (names.zip vals)
  kinds : ∀ n ∈ names, fd.scope.names.lookup n = some .local ∨ fd.scope.names.lookup n = some .cell

theorem cellsFrom_isSome : ∀ (names : List (Str × NameKind)) (n : Nat) (acc : List (Str × Addr)) (x : Str), (names.lookup x = some .cell ∨ (acc.lookup x).isSome = true) → ((cellsFrom n names acc).lookup x).isSome = true
  | [], n, acc, x, h => by rcases h with h | h; · cases h
                           · exact h
  | (y, kd) :: r, n, acc, x, h => by
    unfold cellsFrom
    rw [List.lookup_cons] at h
    split
    · rename_i hk
      refine cellsFrom_isSome r (n + 1) _ x ?_
      rw [List.lookup_cons]
      by_cases q : (x == y) = true
      · rw [q]; exact .inr rfl
      · have q' : (x == y) = false := by simpa using q
        rw [q'] at h ⊢; exact h
    · rename_i hk
      refine cellsFrom_isSome r n _ x ?_
      by_cases q : (x == y) = true
      · rw [q] at h
        rcases h with h | h
        · simp only [Option.some.injEq] at h; rw [h] at hk; simp at hk
        · exact .inr h
      · have q' : (x == y) = false := by simpa using q
        rw [q'] at h; exact h

/-- a frame of this def -/
structure EnvOf (fd : FuncData) (env : Env) : Prop where
  scope : env.scope = fd.scope
  cells : ∀ x, env.kindOf x = some .cell → (env.cells.lookup x).isSome = true

theorem bind_rel {h : Heap} {H : Hp} {env : Env} : ∀ (names : List Str) (args : List V) (vals : List Value), VRelL h H args vals → ∀ (ρ : Rho) (m cm : Str → Option Value), (∀ n ∈ names, env.kindOf n = some .local ∨ (env.kindOf n = some .cell ∧ (env.cells.lookup n).isSome = true)) →
    (∀ x v, ρ x = some v → LocRel h H env m cm x v) → ∀ x v, bindRho ρ names args x = some v → LocRel h H env (bindL env.kindOf (names.zip vals) m) (bindC env.kindOf (names.zip vals) cm) x v
  | [], args, vals, r, ρ, m, cm, hk, h0, x, v, e => by cases args <;> exact h0 x v e
  | n :: ns, [], _, .nil, ρ, m, cm, hk, h0, x, v, e => h0 x v e
  | n :: ns, a :: as, u :: us, .cons ru rs, ρ, m, cm, hk, h0, x, v, e => by
    rw [List.zip_cons_cons]
    unfold bindL bindC
    refine bind_rel ns as us rs (ρ.set n a) _ _ (fun y hy => hk y (.tail _ hy)) ?_ x v e
    intro y w ey
    unfold Rho.set at ey
    have hn := hk n (.head _)
    by_cases q : y = n
    · subst q
      rw [if_pos rfl] at ey; cases ey
      unfold LocRel
      rcases hn with hn | ⟨hn, hc⟩
      · rw [hn]; simp only [if_true]; exact ⟨u, by simp, ru⟩
      · rw [hn]
        obtain ⟨c, hc⟩ := Option.isSome_iff_exists.mp hc
        simp only [Option.some.injEq, reduceCtorEq, if_false]
        exact ⟨u, c, hc, by simp, ru⟩
    · rw [if_neg q] at ey
      have := h0 y w ey
      unfold LocRel at this ⊢
      split at this
      · rename_i hy
        obtain ⟨u', a', b'⟩ := this
        refine ⟨u', ?_, b'⟩
        split
        · simp [q, a']
        · exact a'
      · obtain ⟨u', c', a', b', d'⟩ := this
        refine ⟨u', c', a', ?_, d'⟩
        split
        · exact b'
        · simp [q, b']
      · obtain ⟨u', c', a', b', d'⟩ := this
        refine ⟨u', c', a', ?_, d'⟩
        split
        · exact b'
        · simp [q, b']
      · trivial

def Fl.val : Fl → V
  | .ret v => v
  | _ => .none

def RetQ (Q : V → Hp → Prop) : Fl → Rho → Hp → Prop := fun fl _ H => ∃ v' H', Fz H fl.val v' H' ∧ Q v' H'

theorem FlRel.val {h : Heap} {H : Hp} : ∀ {fl : Fl} {f : Flow}, FlRel h H fl f → VRel h H fl.val (match f with | .ret v => v | _ => .none)
  | .next, .next, _ => .none
  | .brk, .brk, _ => .none
  | .cont, .cont, _ => .none
  | .ret _, .ret _, r => r

theorem FnOK.of_def {C : Cx} {k : Nat} {a : Addr} {fd : FuncData} {names : List Str} {body : List Stmt} {S : SpecT} (D : FnDef C a fd names body)
    (h : ∀ args Q R H, S args Q R H → args.length = names.length ∧ ∀ L, ExecsW C k (callEnvC fd L a) body (RetQ Q) (fun _ _ _ => False) (bindRho (fun _ => none) names args) H) :
    FnOK C (k + 1) (.ref a) S := by
  intro A lv s H args xs Q R Sm rel hs
  obtain ⟨hlen, hb⟩ := h args Q R H hs
  obtain ⟨o, ho, hd⟩ := D.obj
  have hxl : xs.length = names.length := rel.length.trans hlen
  have hkinds : ∀ x ∈ names.zip xs, fd.scope.names.lookup x.1 = some .local ∨ (fd.scope.names.lookup x.1 = some .cell ∧ ((cellsFrom (s.heap.objs.size + 1) fd.scope.names []).lookup x.1).isSome = true) := by
    intro x hx
    rcases D.kinds x.1 (List.of_mem_zip (a := x.1) (b := x.2) hx).1 with q | q
    · exact .inl q
    · exact .inr ⟨q, cellsFrom_isSome _ _ _ _ (.inl q)⟩
  refine codeAny_call_cells (by have := lv.depth; omega) (Sm.keep _ _ ho) hd (D.limit.keeps Sm.keep) (D.code.keeps Sm.keep) D.body (D.bind xs hxl) D.closure hkinds (fun s₁ X => ?_) D.co D.gen D.kind
  have hkeep := X.toInCall.keep
  obtain ⟨h₁, tk, e₁, _⟩ := X.done
  have E₁ : Ext H s.heap H s₁.heap := Ext.grown hkeep
  have S₁ : Sim C H s₁ := Sm.grown hkeep (by rw [e₁]) (by rw [e₁])
  have EO : EnvOf fd (callEnvC fd s.heap.objs.size a) := ⟨rfl, fun x hx => cellsFrom_isSome _ _ _ _ (.inl hx)⟩
  have SL : SimL C (callEnvC fd s.heap.objs.size a) (bindRho (fun _ => none) names args) H s₁ := by
    refine ⟨S₁, D.kind, D.globals, D.builtins, _, _, ⟨X.toInCall.ns, X.cell, Sm.fresh (Nat.le_refl _), fun n c e => Sm.fresh ?_, Sm.freshB (Nat.le_refl _), fun n c e => Sm.freshB ?_, fun n n' c e e' => name_of_addr X.apart (mem_of_lookup e) (mem_of_lookup e')⟩, ?_⟩
    · exact Nat.le_of_lt (X.above n c (mem_of_lookup e))
    · exact Nat.le_of_lt (X.above n c (mem_of_lookup e))
    · refine bind_rel names args xs (rel.ext E₁) _ _ _ (fun n hn => ?_) (fun x v e => by cases e)
      rcases D.kinds n hn with q | q
      · exact .inl q
      · exact .inr ⟨q, EO.cells n q⟩
  have lv' : Lv C k (A.deeper (callEnvC fd s.heap.objs.size a)) := ⟨fun e => lv.handled e, by have := lv.depth; show A.depth + 1 + 2 * k + 100 < _; omega, by have := lv.units; show A.units + 3 + 40 * k + 100 < _; omega⟩
  refine wpAny_mono (hb _ _ lv' s₁ SL) ?_ ?_
  · rintro f s' ⟨fl, ρ', H', ⟨v', H'', fz, q⟩, r, S', E'⟩
    have E'' : Ext H s.heap H' s'.heap := by
      refine ⟨fun b ob e n => E'.keep b ob (hkeep b ob e) n ?_ ?_, fun b ob e n => E'.grow b ob (hkeep b ob e) n, fun b ob e => E'.live b ob (hkeep b ob e)⟩
      · exact Nat.ne_of_lt (Heap.lt_size e)
      · intro n' e'
        have h1 := X.above n' b (mem_of_lookup e')
        have h2 := Heap.lt_size e
        exact absurd (Nat.lt_trans (show s.heap.objs.size < b from h1) h2) (Nat.lt_irrefl _)
    have rv := r.val
    obtain ⟨S'', r''⟩ := fz.2 C s' _ S'.sim rv
    exact ⟨v', H'', q, S'', r'', ⟨E''.keep, fun b ob e n => fz.1 b (E''.grow b ob e n), E''.live⟩⟩
  · rintro e s' ⟨_, _, _, q, _⟩; exact q.elim

end Mine

set_option Elab.async false
set_option linter.unusedVariables false
namespace Mine
open PySem PyProof.Rows

def ArgsW (C : Cx) (k : Nat) (env : Env) (es : List Expr) (Q : List V → Hp → Prop) (R : V → Hp → Prop) (ρ : Rho) (H : Hp) : Prop :=
  ∀ A, Lv C k A → ∀ s, SimL C env ρ H s → ∀ pos, wpAny C.M A (spliced (backTo pos (starEach es env))) (Post C H s.heap VRelL Q) (Post C H s.heap VRel R) s

variable {C : Cx} {k : Nat} {env : Env} {ρ : Rho} {H : Hp} {Q R : V → Hp → Prop} {QL : List V → Hp → Prop}

theorem ArgsW.nil (h : QL [] H) : ArgsW C k env [] QL R ρ H := fun A a s S pos => args_nil (Post.here h S.sim .nil rfl)
theorem ArgsW.cons {e rest} (h : EvalW C k env e (fun v H₁ => ArgsW C k env rest (fun vs H₂ => QL (v :: vs) H₂) R ρ H₁) R ρ H)
    (he : starEach (e :: rest) env = (false, eval e env) :: starEach rest env := by rfl) : ArgsW C k env (e :: rest) QL R ρ H := fun A a s S pos => by
  refine args_cons ?_ he
  refine wp_go (h A a s S) fun x v H₁ s₁ h₁ S₁ r₁ E₁ => wp_go (h₁ A a s₁ (S.ext S₁ E₁) pos) (fun xs vs H₂ s₂ h₂ S₂ r₂ E₂ => ?_) fun _ _ p => p.after E₁
  exact ⟨_, H₂, h₂, S₂, .cons (r₁.ext E₂) r₂, E₁.trans E₂⟩

theorem evalArgs_any {M : Model} {A : Around} {E : Value → Shared → Prop} {s : Shared} {f : Value} {args : List (Bool × Sem Value)} {Q : Args → Shared → Prop} (hplain : args.any (·.1) = false)
    (h : wpAny M A (spliced args) (fun vs s' => Q ⟨vs, []⟩ s') E s) : wpAny M A (evalArgs f true args []) Q E s := by
  cases args with
  | nil =>
    unfold evalArgs
    show wpAny M A (spliced [] >>= _) Q E s
    refine wpAny_bind (wpAny_mono h (fun vs s' h' => ?_) fun _ _ x => x)
    refine wpAny_holding ?_
    exact wpAny_bind (wpAny_pure (wpAny_bind (wpAny_pure (wpAny_pure h'))))
  | cons x rest =>
    obtain ⟨b, x⟩ := x
    have : b = false := by simp at hplain; exact hplain.1
    subst this
    exact Calls.evalArgs_plain h

/-- a callee that a plain call reaches: its arguments, then the call -/
def Plainly (C : Cx) (f : Value) : Prop :=
  ∀ (A : Around) (E : Value → Shared → Prop) (Q : Value → Shared → Prop) (s : Shared) (first : List Value) (pos : Pos) (args : List (Bool × Sem Value)), args.any (·.1) = false →
    wpAny C.M A (spliced args) (fun vs s₁ => (∀ b o, C.base.get? b = some o → s₁.heap.get? b = some o) ∧ wpAny C.M A (call f (first ++ vs)) Q E s₁) E s → wpAny C.M A (callWith pos f first args []) Q E s
theorem Plainly.builtin (id : String) : Plainly C (.builtin id) := fun A E Q s first pos args hp h =>
  Calls.callWith_builtin hp (evalArgs_any hp (wpAny_mono h (fun _ _ x => x.2) fun _ _ x => x))
theorem Plainly.type (T : String) : Plainly C (.type T) := fun A E Q s first pos args hp h =>
  PySem.callWith_type hp (evalArgs_any hp (wpAny_mono h (fun _ _ x => x.2) fun _ _ x => x))
theorem Plainly.fn {a : Addr} {o : Obj} {fd : FuncData} (ho : C.base.get? a = some o) (hd : o.data = .func fd) : Plainly C (.ref a) := fun A E Q s first pos args hp h =>
  Calls.callWith_function (o := o) (fd := fd) (evalArgs_any hp (wpAny_mono h (fun _ _ x => ⟨⟨x.1 _ _ ho, hd⟩, x.2⟩) fun _ _ x => x))
theorem FnDef.plainly {a fd names body} (D : FnDef C a fd names body) : Plainly C (.ref a) := let ⟨o, h1, h2⟩ := D.obj; Plainly.fn h1 h2

theorem backTo_plain {pos : Pos} : ∀ {l : List (Bool × Sem Value)}, l.any (·.1) = false → (backTo pos l).any (·.1) = false
  | [], _ => rfl
  | (b, t) :: r, h => by
    have h' : (b || r.any (·.1)) = false := h
    have hb : b = false := by revert h'; cases b <;> simp
    subst hb
    show (false || (backTo pos r).any (·.1)) = false
    rw [backTo_plain (by simpa using h')]; rfl

theorem EvalW.call {f args pos} (h : EvalW C k env f (fun v H₁ => ∃ u, v = .con u ∧ Plainly C u ∧ ArgsW C k env args (fun vs H₂ => CallW C k u vs Q R H₂) R ρ H₁) R ρ H)
    (he : eval (.Call f args [] pos) env = (do callWith pos (← eval f env) [] (backTo pos (starEach args env)) (backToKw pos (keywordEach [] env))) := by rfl)
    (hp : (starEach args env).any (·.1) = false := by rfl) : EvalW C k env (.Call f args [] pos) Q R ρ H := fun A a s S => by
  refine Call_ (wp_go (h A a s S) fun x v H₁ s₁ h₁ S₁ r₁ E₁ => ?_) he
  obtain ⟨u, rfl, pl, h₁⟩ := h₁
  have hx : x = u := by cases r₁; rfl
  subst hx
  refine pl A _ _ s₁ [] pos _ (backTo_plain hp) (wp_go (h₁ A a s₁ (S.ext S₁ E₁) pos) (fun xs vs H₂ s₂ h₂ S₂ r₂ E₂ => ⟨S₂.keep, ?_⟩) fun _ _ p => p.after E₁)
  exact wp_fin (E₁.trans E₂) (h₂ A a s₂ xs S₂ r₂)

/-- the usual form: a global name is called -/
theorem EvalW.callName {x p args pos f} (g : GlobalV C x (.con f)) (pl : Plainly C f) (hk : env.kindOf x = some .globalImplicit) (h : ArgsW C k env args (fun vs H₂ => CallW C k f vs Q R H₂) R ρ H)
    (hd : (x == ("__debug__" : Str)) = false := by decide) (hp : (starEach args env).any (·.1) = false := by rfl) : EvalW C k env (.Call (.Name x p) args [] pos) Q R ρ H :=
  EvalW.call (EvalW.global g ⟨f, rfl, pl, h⟩ hk hd) rfl hp

/-- the method that a value has -/
def MethIs (C : Cx) (H : Hp) (v : V) (name : Str) (f : Value) : Prop :=
  ∀ (A : Around) (s : Shared) (x : Value) (pl : Sem Bool) (Q : Value × List Value → Shared → Prop) (E : Value → Shared → Prop), Sim C H s → VRel s.heap H v x → Q (f, [x]) s → wpAny C.M A (getMethod x name pl) Q E s

theorem EvalW.method {o name apos args pos pl} (h : EvalW C k env o (fun v H₁ => ∃ f, MethIs C H₁ v name f ∧ Plainly C f ∧ ArgsW C k env args (fun vs H₂ => CallW C k f (v :: vs) Q R H₂) R ρ H₁) R ρ H)
    (he : eval (.Call (.Attribute o name apos) args [] pos) env = (do
      let ov ← eval o env
      standAt apos.atName
      let (f, first) ← holding [ov] (getMethod ov name pl)
      callWith pos f first (backTo pos (starEach args env)) []) := by rfl)
    (hp : (starEach args env).any (·.1) = false := by rfl) : EvalW C k env (.Call (.Attribute o name apos) args [] pos) Q R ρ H := fun A a s S => by
  refine MethodCall_ (pl := pl) (wp_go (h A a s S) fun x v H₁ s₁ h₁ S₁ r₁ E₁ => ?_) he
  obtain ⟨f, hm, hpl, h₁⟩ := h₁
  refine hm A s₁ x _ _ _ S₁ r₁ ?_
  refine hpl A _ _ s₁ [x] pos _ (backTo_plain hp) (wp_go (h₁ A a s₁ (S.ext S₁ E₁) pos) (fun xs vs H₂ s₂ h₂ S₂ r₂ E₂ => ⟨S₂.keep, ?_⟩) fun _ _ p => p.after E₁)
  exact wp_fin (E₁.trans E₂) (h₂ A a s₂ (x :: xs) S₂ (.cons (r₁.ext E₂) r₂))

/-- a tuple display; a list display -/
theorem EvalW.tuple {es n p} (h : ArgsW C k env es (fun vs H₁ => Q (.tup vs) H₁ ∧ vs.length ≤ 1000) R ρ H) : EvalW C k env (.Tuple es n p) Q R ρ H := fun A a s S => by
  refine Tuple_ (wp_go (h A a s S p) fun xs vs H₁ s₁ h₁ S₁ r₁ E₁ => ?_)
  have e1 : xs.length = vs.length := r₁.length
  have hk : ∀ b o, s₁.heap.get? b = some o → (s₁.heap.push { cls := .type "tuple", data := .seq xs.toArray }).get? b = some o := fun b o e => Heap.get?_push_of_some _ e
  refine wpAny_newObj_type (?_) (by show xs.toArray.size ≤ sizeLine; rw [List.size_toArray, e1]; exact Nat.le_trans h₁.2 (by decide))
  refine ⟨.tup vs, H₁, h₁.1, S₁.grown (s' := { s₁ with heap := s₁.heap.push _ }) hk rfl rfl, .tup ⟨_, Heap.get?_push_size _ rfl, rfl, _, rfl⟩ (S₁.fresh (Nat.le_refl _)) (r₁.ext (Ext.grown hk)), E₁.trans (Ext.grown hk)⟩

/-- a new owned object -/
theorem Sim.alloc {C : Cx} {H : Hp} {s s' : Shared} {o : O} (S : Sim C H s) (hk : ∀ a o, s.heap.get? a = some o → s'.heap.get? a = some o) (hg : s'.gens = s.gens) (ho : s'.os = s.os)
    (hr : ORel C s'.heap (H.set s.heap.objs.size o) s.heap.objs.size o) : Sim C (H.set s.heap.objs.size o) s' ∧ Ext H s.heap (H.set s.heap.objs.size o) s'.heap := by
  have E : Ext H s.heap (H.set s.heap.objs.size o) s'.heap := by
    refine ⟨fun a ob e _ => hk a ob e, fun a ob e n => ?_, fun a ob e => ⟨ob, hk a ob e⟩⟩
    unfold Hp.set
    rw [if_neg (Nat.ne_of_lt (Heap.lt_size e))]; exact n
  refine ⟨⟨fun a o e => hk a o (S.keep a o e), hg.trans S.gens, ho.trans S.os, fun a o' e => ?_, fun a e => ?_⟩, E⟩
  · unfold Hp.set at e
    split at e
    · rename_i q; subst q; cases e; exact hr
    · have r := S.objs a o' e
      obtain ⟨ob', e'⟩ := r.lt
      exact r.same E.v ((hk a ob' e').trans e'.symm)
  · unfold Hp.set at e
    split at e
    · rename_i q; subst q; exact ⟨S.freshB (Nat.le_refl _), S.freshS (Nat.le_refl _)⟩
    · exact S.new a e

theorem newList_W {A : Around} {xs : List Value} {vs : List V} {s : Shared} {E : Value → Shared → Prop} {P : Value → Shared → Prop} (S : Sim C H s) (r : VRelL s.heap H vs xs) (hn : vs.length ≤ 1000)
    (h : ∀ a s', H a = none → Sim C (H.set a (.list vs)) s' → Ext H s.heap (H.set a (.list vs)) s'.heap → P (.ref a) s') : wpAny C.M A (newList xs) P E s := by
  have e1 : xs.length = vs.length := r.length
  have hk : ∀ b o, s.heap.get? b = some o → (s.heap.push { cls := .type "list", data := .seq xs.toArray }).get? b = some o := fun b o e => Heap.get?_push_of_some _ e
  refine wpAny_newObj_type (?_) (by show xs.toArray.size ≤ sizeLine; rw [List.size_toArray, e1]; exact Nat.le_trans hn (by decide))
  have E0 : Ext H s.heap (H.set s.heap.objs.size (.list vs)) (s.heap.push { cls := .type "list", data := .seq xs.toArray }) :=
    ⟨fun a ob e _ => hk a ob e, fun a ob e n => by unfold Hp.set; rw [if_neg (Nat.ne_of_lt (Heap.lt_size e))]; exact n, fun a ob e => ⟨ob, hk a ob e⟩⟩
  obtain ⟨S', E'⟩ := S.alloc (s' := { s with heap := s.heap.push { cls := .type "list", data := .seq xs.toArray } }) hk rfl rfl (o := .list vs) ⟨xs.toArray, ⟨_, Heap.get?_push_size _ rfl⟩, by simpa using r.ext E0⟩
  exact h _ _ (S.fresh (Nat.le_refl _)) S' E'
theorem EvalW.list {es p} (h : ArgsW C k env es (fun vs H₁ => vs.length ≤ 1000 ∧ ∀ a, H₁ a = Option.none → Q (.ref a) (H₁.set a (.list vs))) R ρ H) : EvalW C k env (.List es p) Q R ρ H := fun A a s S =>
  List_ (wp_go (h A a s S p) fun xs vs H₁ s₁ h₁ S₁ r₁ E₁ => newList_W S₁ r₁ h₁.1 fun b s' n S' E' => ⟨.ref b, _, h₁.2 b n, S', .ref b, E₁.trans E'⟩)
/-- a list display that nobody will change -/
theorem EvalW.list_fz {es p} (h : ArgsW C k env es (fun vs H₁ => vs.length ≤ 1000 ∧ Q (.lst vs) H₁) R ρ H) : EvalW C k env (.List es p) Q R ρ H := fun A a s S => by
  refine List_ (wp_go (h A a s S p) fun xs vs H₁ s₁ h₁ S₁ r₁ E₁ => ?_)
  have e1 : xs.length = vs.length := r₁.length
  have hk : ∀ b o, s₁.heap.get? b = some o → (s₁.heap.push { cls := .type "list", data := .seq xs.toArray }).get? b = some o := fun b o e => Heap.get?_push_of_some _ e
  refine wpAny_newObj_type (?_) (by show xs.toArray.size ≤ sizeLine; rw [List.size_toArray, e1]; exact Nat.le_trans h₁.1 (by decide))
  refine ⟨.lst vs, H₁, h₁.2, S₁.grown (s' := { s₁ with heap := s₁.heap.push _ }) hk rfl rfl, .lst ⟨_, Heap.get?_push_size _ rfl, rfl, _, rfl⟩ (S₁.fresh (Nat.le_refl _)) (r₁.ext (Ext.grown hk)), E₁.trans (Ext.grown hk)⟩

end Mine

set_option Elab.async false
set_option linter.unusedVariables false
namespace Mine
open PySem PyProof.Rows

/-- all but name tables and cells stays -/
def ExtW (H : Hp) (h : Heap) (H' : Hp) (h' : Heap) : Prop :=
  ∀ a o, h.get? a = some o → H a = none → (∀ es n, o.data ≠ .dict es n) → (∀ v, o.data ≠ .cell v) → h'.get? a = some o ∧ H' a = none
theorem Ext.w {H h H' h'} (E : Ext H h H' h') : ExtW H h H' h' := fun a o e n _ _ => ⟨E.keep a o e n, E.grow a o e n⟩
theorem ExtW.trans {H h H' h' H'' h''} (x : ExtW H h H' h') (y : ExtW H' h' H'' h'') : ExtW H h H'' h'' :=
  fun a o e n d c => let ⟨e1, n1⟩ := x a o e n d c; y a o e1 n1 d c
theorem ExtW.v {H h H' h'} (E : ExtW H h H' h') : ExtV H h H' h' := fun a o xs m e d n => E a o e n (fun _ _ q => by rw [d] at q; cases q) (fun _ q => by rw [d] at q; cases q)
theorem ExtF.w {C : Cx} {env : Env} {ρ : Rho} {H H' : Hp} {s : Shared} {h' : Heap} (S : SimL C env ρ H s) (E : ExtF env H s.heap H' h') : ExtW H s.heap H' h' := fun a o e n d c => by
  obtain ⟨m, cm, F, _⟩ := S.frm
  refine ⟨E.keep a o e n (fun q => ?_) (fun x q => ?_), E.grow a o e n⟩
  · subst q; obtain ⟨oL, es, ep, eL, dL, _⟩ := F.ns; rw [eL] at e; cases e; exact d _ _ dL
  · obtain ⟨oc, ec, dc⟩ := F.cell x a q; rw [ec] at e; cases e; exact c _ dc

/-- records (iterators) were moved on, new objects may have come -/
structure Moved (wr : List Addr) (s s' : Shared) : Prop where
  keep : ∀ b o, b ∉ wr → s.heap.get? b = some o → s'.heap.get? b = some o
  gens : s'.gens = s.gens
  os : s'.os = s.os

structure Tmp (C : Cx) (H : Hp) (wr : List Addr) (h : Heap) : Prop where
  fld : ∀ b ∈ wr, ∃ o fs, h.get? b = some o ∧ o.data = .fields fs
  own : ∀ b ∈ wr, H b = none
  new : ∀ b ∈ wr, C.base.get? b = none

theorem Moved.extV {C H wr s s'} (T : Tmp C H wr s.heap) (M : Moved wr s s') : ExtV H s.heap H s'.heap := fun a o xs n e d m =>
  ⟨M.keep a o (fun q => by obtain ⟨o', fs, e', d'⟩ := T.fld a q; rw [e'] at e; cases e; rw [d'] at d; cases d) e, m⟩
theorem Sim.moved {C H wr s s'} (S : Sim C H s) (T : Tmp C H wr s.heap) (M : Moved wr s s') : Sim C H s' := by
  refine ⟨fun a o e => M.keep a o (fun q => ?_) (S.keep a o e), M.gens.trans S.gens, M.os.trans S.os, fun a o e => ?_, S.new⟩
  · rw [T.new a q] at e; cases e
  · have r := S.objs a o e
    obtain ⟨ob', e'⟩ := r.lt
    exact r.same (M.extV T) ((M.keep a ob' (fun q => by rw [T.own a q] at e; cases e) e').trans e'.symm)
theorem SimL.moved {C env ρ H wr s s'} (S : SimL C env ρ H s) (T : Tmp C H wr s.heap) (M : Moved wr s s') : SimL C env ρ H s' := by
  obtain ⟨m, cm, F, r⟩ := S.frm
  refine ⟨S.sim.moved T M, S.kind, S.globals, S.builtins, m, cm, ⟨?_, fun n c e => ?_, F.own, F.ownc, F.above, F.abovec, F.apart⟩, fun x v e => (r x v e).extV (M.extV T)⟩
  · obtain ⟨oL, es, ep, eL, dL, rL⟩ := F.ns
    exact ⟨oL, es, ep, M.keep _ _ (fun q => by obtain ⟨o', fs, e', d'⟩ := T.fld _ q; rw [e'] at eL; cases eL; rw [d'] at dL; cases dL) eL, dL, rL⟩
  · obtain ⟨oc, ec, dc⟩ := F.cell n c e
    exact ⟨oc, M.keep _ _ (fun q => by obtain ⟨o', fs, e', d'⟩ := T.fld _ q; rw [e'] at ec; cases ec; rw [d'] at dc; cases dc) ec, dc⟩
theorem ExtF.moved {env H h₀ H₁ wr s s'} (E : ExtF env H h₀ H₁ s.heap) (M : Moved wr s s') (hn : ∀ b ∈ wr, h₀.get? b = none) : ExtF env H h₀ H₁ s'.heap := by
  have hb : ∀ a o, h₀.get? a = some o → a ∉ wr := fun a o e q => by rw [hn a q] at e; cases e
  exact ⟨fun a o e n n1 n2 => M.keep a o (hb a o e) (E.keep a o e n n1 n2), E.grow, fun a o e => let ⟨o', e'⟩ := E.live a o e; ⟨o', M.keep a o' (hb a o e) e'⟩⟩
theorem Ext.moved {H h₀ H₁ wr s s'} (E : Ext H h₀ H₁ s.heap) (M : Moved wr s s') (hn : ∀ b ∈ wr, h₀.get? b = none) : Ext H h₀ H₁ s'.heap := by
  have hb : ∀ a o, h₀.get? a = some o → a ∉ wr := fun a o e q => by rw [hn a q] at e; cases e
  exact ⟨fun a o e n => M.keep a o (hb a o e) (E.keep a o e n), E.grow, fun a o e => let ⟨o', e'⟩ := E.live a o e; ⟨o', M.keep a o' (hb a o e) e'⟩⟩
theorem Moved.trans {wr s s' s''} (x : Moved wr s s') (y : Moved wr s' s'') : Moved wr s s'' :=
  ⟨fun b o n e => y.keep b o n (x.keep b o n e), y.gens.trans x.gens, y.os.trans x.os⟩

/-- an iterator that yields the items, one by one -/
def IsTupleE (tup : Bool) (target : Expr) : Prop := tup = true → ∃ es n p, target = .Tuple es n p

structure ItrOK (C : Cx) (tup : Bool) (I : Addr) (wr : List Addr) (St : List V → Hp → Heap → Prop) (cond : Hp → Prop) : Prop where
  tmp : ∀ r H h, St r H h → Tmp C H wr h
  next : ∀ A, A.units + 1 < cLine → ∀ s v r H (P : Option Value → Shared → Prop) (E : Value → Shared → Prop), Sim C H s → cond H → St (v :: r) H s.heap →
    (∀ x s', (∀ target, IsTupleE tup target → ∀ (P' : Unit → Shared → Prop), (∀ s'', VRel s''.heap H v x → St r H s''.heap → Moved wr s s'' → P' () s'') → wpAny C.M A (letOwnedTupleGo target (.ref I) x) P' E s') → P (some x) s') → wpAny C.M A (pyNext (.ref I)) P E s
  done : ∀ A s H (P : Option Value → Shared → Prop) (E : Value → Shared → Prop), A.handled = none → A.units + 1 < cLine → Sim C H s → cond H → St [] H s.heap → (∀ s', Moved wr s s' → P none s') → wpAny C.M A (pyNext (.ref I)) P E s
  self : ∀ A s r H (P : Value → Shared → Prop) (E : Value → Shared → Prop), St r H s.heap → P (.ref I) s → wpAny C.M A (pyIter (.ref I)) P E s
  frame : ∀ r H h H' h', St r H h → ExtW H h H' h' → cond H' → St r H' h'

def AssignW (C : Cx) (k : Nat) (env : Env) (target : Expr) (v : V) (Q : Rho → Prop) (ρ : Rho) (H : Hp) : Prop :=
  ∀ A, Lv C k A → ∀ s x, SimL C env ρ H s → VRel s.heap H v x → ∀ (P : Unit → Shared → Prop) E, (∀ ρ' s', Q ρ' → SimL C env ρ' H s' → ExtF env H s.heap H s'.heap → P () s') → wpAny C.M A (assign target env x) P E s

variable {C : Cx} {k : Nat} {env : Env} {ρ : Rho} {H : Hp}

theorem AssignW.name {x p v} {Q : Rho → Prop} (hk : Storable env x) (h : Q (ρ.set x v)) : AssignW C k env (.Name x p) v Q ρ H := fun A a s u S r P E hP =>
  wpAny_assign_Name (store_W hk S r fun s' S' E' _ => hP _ s' h S' E')

/-- several names at once -/
inductive StA (env : Env) : List Expr → List Str → Prop
  | nil : StA env [] []
  | cons {x : Str} {p : Pos} {es : List Expr} {xs : List Str} (hx : Storable env x) (hr : StA env es xs) : StA env (.Name x p :: es) (x :: xs)
def setAll (ρ : Rho) : List Str → List V → Rho
  | x :: r, v :: t => setAll (ρ.set x v) r t
  | _, _ => ρ
theorem assignEach_length {es : List Expr} {xs : List Str} (h : StA env es xs) : (assignEach es env).length = xs.length ∧ (assignEach es env).findIdx? (·.1) = none := by
  induction h with
  | nil => exact ⟨rfl, rfl⟩
  | @cons x p es xs hx hr ih =>
    obtain ⟨a, b⟩ := ih
    refine ⟨by show (assignEach es env).length + 1 = _; rw [a]; rfl, ?_⟩
    show List.findIdx? (·.1) ((false, assign (.Name x p) env) :: assignEach es env) = none
    rw [List.findIdx?_cons, b]; rfl
theorem assignInOrder_W {A : Around} {E : Value → Shared → Prop} {P : Unit → Shared → Prop} {es : List Expr} {xs : List Str} (hst : StA env es xs) : ∀ (vs : List V) (us : List Value) (ρ : Rho) (s : Shared), vs.length = xs.length → SimL C env ρ H s → VRelL s.heap H vs us →
    (∀ s', SimL C env (setAll ρ xs vs) H s' → ExtF env H s.heap H s'.heap → P () s') → wpAny C.M A (assignInOrder ((assignEach es env).map (·.2)) us) P E s := by
  induction hst with
  | nil =>
    intro vs us ρ s hl S r h
    cases vs with
    | nil => cases r; exact wpAny_pure (h s S (ExtF.refl _ _ _))
    | cons v t => cases hl
  | @cons x p es xs hx hr ih =>
    intro vs us ρ s hl S r h
    cases r with
    | nil => cases hl
    | @cons v u vs us rv rl =>
      show wpAny C.M A (assignInOrder (assign (.Name x p) env :: (assignEach es env).map (·.2)) (u :: us)) P E s
      unfold assignInOrder
      refine wpAny_bind (wpAny_holding (wpAny_assign_Name (store_W hx S rv fun s' S' E' _ => ?_)))
      exact ih vs us (ρ.set x v) s' (by simpa using hl) S' (rl.extV (E'.w S).v) fun s'' S'' E'' => h s'' S'' (E'.trans E'')

theorem AssignW.tuple {es n p xs vs} {Q : Rho → Prop} (hst : StA env es xs) (hl : vs.length = xs.length) (hd : C.hd = true) (h : Q (setAll ρ xs vs)) : AssignW C k env (.Tuple es n p) (.tup vs) Q ρ H := fun A a s u S r P E hP => by
  cases r with
  | @tup ad l ys ha ho rl =>
    obtain ⟨l1, l2⟩ := assignEach_length hst
    have hz : ys.size = vs.length := by have := rl.length; simpa using this
    refine wpAny_assign_Tuple (a.handled hd) ha (l1.trans (hl.symm.trans hz.symm)) l2 fun h' he => ?_
    have hk : ∀ b o, s.heap.get? b = some o → h'.get? b = some o := fun b o e => he b o (Nat.ne_of_lt (Heap.lt_size e)) e
    have S1 : Sim C H { s with heap := h' } := S.sim.grown (s' := { s with heap := h' }) hk rfl rfl
    have SL : SimL C env ρ H { s with heap := h' } := S.ext S1 (Ext.grown hk)
    exact assignInOrder_W hst vs ys.toList ρ { s with heap := h' } hl SL (rl.ext (Ext.grown hk)) fun s' S' E' => hP _ s' h S' ((Ext.grown hk).toF.trans E')

end Mine

set_option Elab.async false
set_option linter.unusedVariables false
namespace Mine
open PySem PyProof.Rows

/-- an expression is evaluated and iterated over: K gets the items -/
def IterE (C : Cx) (k : Nat) (env : Env) (tup : Bool) (e : Expr) (K : List V → (Hp → Prop) → Hp → Prop) (R : V → Hp → Prop) (ρ : Rho) (H : Hp) : Prop :=
  ∀ A, Lv C k A → ∀ s, SimL C env ρ H s → ∀ (P : Value → Shared → Prop) (PE : Value → Shared → Prop), (∀ e s', Post C H s.heap VRel R e s' → PE e s') →
    (∀ I wr St items cond H₂ s₂, K items cond H₂ → ItrOK C tup I wr St cond → cond H₂ → St items H₂ s₂.heap → (∀ b ∈ wr, s.heap.get? b = none) → Sim C H₂ s₂ → Ext H s.heap H₂ s₂.heap → P (.ref I) s₂) →
    wpAny C.M A (eval e env) (fun x s₁ => wpAny C.M A (pyIter x) P PE s₁) PE s

variable {C : Cx} {k : Nat} {env : Env} {ρ : Rho} {H : Hp} {Q : Fl → Rho → Hp → Prop} {R : V → Rho → Hp → Prop} {RE : V → Hp → Prop}

/-- the loop itself -/
theorem for_core {target : Expr} {body : List Stmt} {I : Addr} {wr : List Addr} {St : List V → Hp → Heap → Prop} {cond : Hp → Prop} {tup : Bool} (IT : ItrOK C tup I wr St cond) (ht : IsTupleE tup target) (hd : C.hd = true) {A : Around} (lv : Lv C k A)
    (Inv : List V → Rho → Hp → Prop) (hc : ∀ r ρ H, Inv r ρ H → cond H)
    (step : ∀ v r ρ H, Inv (v :: r) ρ H → AssignW C k env target v (fun ρ' => ExecsW C k env body (fun fl ρ'' H'' => match fl with
      | .next => Inv r ρ'' H'' | .cont => Inv r ρ'' H'' | .brk => Q .next ρ'' H'' | .ret u => Q (.ret u) ρ'' H'') (fun _ _ _ => False) ρ' H) ρ H)
    (fin : ∀ ρ H, Inv [] ρ H → Q .next ρ H)
    {h₀ : Heap} {H₀ : Hp} (hn : ∀ b ∈ wr, h₀.get? b = none) {PE : Result → Shared → Prop}
    (hPE : ∀ f s', PostS C env H₀ h₀ Q f s' → PE (.ok f) s')
    (items : List V) (s : Shared) (S : SimL C env ρ H s) (E : ExtF env H₀ h₀ H s.heap) (st : St items H s.heap) (h0 : Inv items ρ H) :
    codeAny C.M A (.forLoop target (.ref I) body [] env) PE s := by
  have hu : A.units + 1 < cLine := by have := lv.units; omega
  refine codeAny_forLoop_any (fun n s' => ∃ r ρ H, n = r.length + 1 ∧ Inv r ρ H ∧ SimL C env ρ H s' ∧ ExtF env H₀ h₀ H s'.heap ∧ St r H s'.heap) ?_ (items.length + 1) ⟨items, ρ, H, rfl, h0, S, E, st⟩
  rintro n s ⟨r, ρ, H, rfl, hI, S, E, st⟩
  have T := IT.tmp _ _ _ st
  cases r with
  | nil =>
    refine IT.done A s H _ _ (lv.handled hd) hu S.sim (hc _ _ _ hI) st fun s' M => ?_
    refine wpAny_execs_nil (hPE _ _ ⟨.next, ρ, H, fin ρ H hI, trivial, S.moved T M, E.moved M hn⟩)
  | cons v r =>
    refine IT.next A hu s v r H _ _ S.sim (hc _ _ _ hI) st fun x s' hlet => ?_
    refine hlet target ht _ fun s'' rx'' st'' M'' => ?_
    have S'' := S.moved T M''
    have E'' := E.moved M'' hn
    refine step v r ρ H hI A lv s'' x S'' rx'' _ _ fun ρ' s₃ hb S₃ E₃ => ?_
    refine wpAny_mono (hb A lv s₃ S₃) ?_ ?_
    · rintro f s₄ ⟨fl, ρ₄, H₄, q, rf, S₄, E₄⟩
      have E' := E''.trans (E₃.trans E₄)
      have st₄ : ∀ (hI' : Inv r ρ₄ H₄), St r H₄ s₄.heap := fun hI' => IT.frame _ _ _ _ _ st'' ((E₃.trans E₄).w S'') (hc _ _ _ hI')
      cases fl <;> cases f <;> first | exact rf.elim | skip
      · exact ⟨r.length + 1, by simp, r, ρ₄, H₄, rfl, q, S₄, E', st₄ q⟩
      · exact hPE _ _ ⟨.next, ρ₄, H₄, q, trivial, S₄, E'⟩
      · exact ⟨r.length + 1, by simp, r, ρ₄, H₄, rfl, q, S₄, E', st₄ q⟩
      · exact hPE _ _ ⟨.ret _, ρ₄, H₄, q, rf, S₄, E'⟩
    · rintro e s₄ ⟨_, _, _, q, _⟩; exact q.elim

/-- for: by an invariant over what is left -/
theorem ExecW.for_ {target iter body pos} (tup : Bool) (Inv : List V → Rho → Hp → Prop) (hd : C.hd = true) (ht : IsTupleE tup target)
    (h : IterE C k env tup iter (fun items cond H₁ => Inv items ρ H₁ ∧ (∀ r ρ H, Inv r ρ H → cond H)) (fun v H' => R v ρ H') ρ H)
    (step : ∀ v r ρ H, Inv (v :: r) ρ H → AssignW C k env target v (fun ρ' => ExecsW C k env body (fun fl ρ'' H'' => match fl with
      | .next => Inv r ρ'' H'' | .cont => Inv r ρ'' H'' | .brk => Q .next ρ'' H'' | .ret u => Q (.ret u) ρ'' H'') (fun _ _ _ => False) ρ' H) ρ H)
    (fin : ∀ ρ H, Inv [] ρ H → Q .next ρ H)
    (hs : ∀ x, foldedSetIterable iter env x = pure x := by intro _; rfl) : ExecW C k env (.For target iter body [] pos) Q R ρ H := fun A a s S => by
  refine wpAny_For ?_ hs
  refine h A a s S _ _ (fun _ _ p => p.toX S) ?_
  intro I wr St items cond H₂ s₂ ⟨hI, hc⟩ IT hcd st hn S₂ E₂
  refine for_core IT ht hd a Inv hc step fin hn (fun f s' p => p) items s₂ (S.ext S₂ E₂) E₂.toF st hI

/-- while: by an invariant that counts down -/
theorem ExecW.while_ {test body pos} (Inv : Nat → Rho → Hp → Prop) (n : Nat) (h0 : Inv n ρ H)
    (step : ∀ n ρ H, Inv n ρ H → TestW C k env test (fun b H' => if b = true then ExecsW C k env body (fun fl ρ'' H'' => match fl with
      | .next => ∃ m, m < n ∧ Inv m ρ'' H'' | .cont => ∃ m, m < n ∧ Inv m ρ'' H'' | .brk => Q .next ρ'' H'' | .ret u => Q (.ret u) ρ'' H'') (fun _ _ _ => False) ρ H' else Q .next ρ H') (fun _ _ => False) ρ H) :
    ExecW C k env (.While test body [] pos) Q R ρ H := fun A a s₀ S₀ => by
  refine wpAny_While ?_
  refine codeAny_whileLoop (fun n s' => ∃ ρ' H', Inv n ρ' H' ∧ SimL C env ρ' H' s' ∧ ExtF env H s₀.heap H' s'.heap) ?_ n ⟨ρ, H, h0, S₀, ExtF.refl _ _ _⟩
  rintro n s ⟨ρ, H, hI, S, E⟩
  refine wpAny_mono (step n ρ H hI A a s S) ?_ ?_
  · rintro b s' ⟨b', H', q, S', rfl, E'⟩
    cases b'
    · simp only [Bool.false_eq_true, if_false] at q ⊢
      exact wpAny_execs_nil ⟨.next, ρ, H', q, trivial, S.ext S' E', E.trans E'.toF⟩
    · simp only [if_true] at q ⊢
      refine wpAny_mono (q A a s' (S.ext S' E')) ?_ ?_
      · rintro f s₄ ⟨fl, ρ₄, H₄, q, rf, S₄, E₄⟩
        have E'' := E.trans (E'.toF.trans E₄)
        cases fl <;> cases f <;> first | exact rf.elim | skip
        · obtain ⟨m, hm, q⟩ := q; exact ⟨m, hm, ρ₄, H₄, q, S₄, E''⟩
        · exact ⟨.next, ρ₄, H₄, q, trivial, S₄, E''⟩
        · obtain ⟨m, hm, q⟩ := q; exact ⟨m, hm, ρ₄, H₄, q, S₄, E''⟩
        · exact ⟨.ret _, ρ₄, H₄, q, rf, S₄, E''⟩
      · rintro e s₄ ⟨_, _, _, q, _⟩; exact q.elim
  · rintro e s₄ ⟨_, _, q, _⟩; exact q.elim

/-- views -/
def lview (H : Hp) : V → Option (List V)
  | .lst l => some l
  | .ref a => match H a with
    | some (.list l) => some l
    | _ => none
  | _ => none
theorem lview_list {s : Shared} {v : V} {l : List V} {x : Value} (hl : lview H v = some l) (S : Sim C H s) (r : VRel s.heap H v x) : ∃ a xs, x = .ref a ∧ s.heap.IsList a xs ∧ VRelL s.heap H l xs.toList := by
  cases r with
  | lst ha ho rl => cases hl; exact ⟨_, _, rfl, ha, rl⟩
  | ref a =>
    simp only [lview] at hl
    split at hl
    · rename_i l' e
      cases hl
      obtain ⟨xs, h1, h2⟩ := S.objs _ _ e
      exact ⟨a, xs, rfl, h1.isList, h2⟩
    · cases hl
  | _ => cases hl

/-- the iterator over a list that stays as it is -/
def lcond (v : V) (l : List V) : Hp → Prop := fun H => lview H v = some l
theorem itr_list {tup : Bool} {v : V} {l : List V} {a : Addr} {I : Addr} (hv : v = .lst l ∨ v = .ref a) (hI : C.base.get? I = none) :
    ItrOK C tup I [I] (fun r H h => ∃ i, h.IsListIter I a i ∧ H I = none ∧ VRel h H v (.ref a) ∧ r = l.drop i ∧ i ≤ l.length) (lcond v l) where
  tmp := by
    rintro r H h ⟨i, ⟨o, e, c, d⟩, n, _⟩
    exact ⟨fun b hb => by simp at hb; subst hb; exact ⟨o, _, e, d⟩, fun b hb => by simp at hb; subst hb; exact n, fun b hb => by simp at hb; subst hb; exact hI⟩
  next := by
    rintro A hu1 s u r H P E S hc ⟨i, hit, n, rv, hr, hi⟩ hP
    obtain ⟨a', xs, ea, hl, rl⟩ := lview_list hc S rv
    cases ea
    have hu : l[i]? = some u := by
      have := congrArg List.head? hr
      simpa [List.head?_drop] using this.symm
    have hlt : i < l.length := (List.getElem?_eq_some_iff.mp hu).1
    have hrest : r = l.drop (i + 1) := by
      have := congrArg List.tail hr
      simpa [List.tail_drop] using this
    obtain ⟨x, ex, rx⟩ := rl.get hu
    have haI : a ≠ I := fun q => by
      subst q
      obtain ⟨o, e, c, _⟩ := hit
      obtain ⟨o', e', c', _⟩ := hl
      rw [e] at e'; cases e'; rw [c] at c'; exact absurd c' (by decide)
    refine wpAny_pyNext_list_item hit hl (by simpa using ex) fun h' hit' hs => ?_
    have M : Moved [I] s { s with heap := h' } := ⟨fun b o hb e => hs.extBut b o (fun q => hb (by simp [q])) e, rfl, rfl⟩
    · have T : Tmp C H [I] s.heap := by
        obtain ⟨o, e, c, d⟩ := hit
        exact ⟨fun b hb => by simp at hb; subst hb; exact ⟨o, _, e, d⟩, fun b hb => by simp at hb; subst hb; exact n, fun b hb => by simp at hb; subst hb; exact hI⟩
      have V1 := M.extV T
      have st' : ∃ j, h'.IsListIter I a j ∧ H I = none ∧ VRel h' H v (.ref a) ∧ r = l.drop j ∧ j ≤ l.length := ⟨i + 1, hit', n, rv.extV V1, hrest, hlt⟩
      refine hP x _ fun target _ P' hP' => ?_
      have : wpAny C.M A (letOwnedTupleGo target (.ref I) x) P' E { s with heap := h' } := by
        have hend := hP' { s with heap := h' } (rx.extV V1) st' M
        unfold letOwnedTupleGo
        split
        · cases x <;> first | exact wpAny_pure hend | skip
          obtain ⟨o, e, c, d⟩ := hit'
          refine wpAny_bind (wpAny_load e ?_)
          rw [c, d]
          dsimp only
          rw [if_neg (by simp)]
          exact wpAny_pure hend
        · cases x <;> first | exact wpAny_pure hend | skip
          obtain ⟨o, e, c, d⟩ := hit'
          refine wpAny_bind (wpAny_load e ?_)
          rw [c, d]
          dsimp only
          rw [if_neg (by simp)]
          exact wpAny_pure hend
        · exact wpAny_pure hend
      exact this
  done := by
    rintro A s H P E hh hu S hc ⟨i, hit, n, rv, hr, hi⟩ hP
    obtain ⟨a', xs, ea, hl, rl⟩ := lview_list hc S rv
    cases ea
    have hlen : xs.size = l.length := by have := rl.length; simpa using this
    have hx : xs[i]? = none := by
      have : l.length ≤ i := by
        have := congrArg List.length hr
        simp at this; omega
      simp; omega
    refine wpAny_pyNext_list_end hh hit hl hx fun h' he => ?_
    exact hP _ ⟨fun b o hb e => he b o (fun q => hb (by simp [q])) e, rfl, rfl⟩
  self := by
    rintro A s r H P E ⟨i, hit, _⟩ hP
    exact wpAny_pyIter_listiter hit hP
  frame := by
    rintro r H h H' h' ⟨i, ⟨o, e, c, d⟩, n, rv, hr, hi⟩ E hc
    have := E I o e n (fun _ _ q => by rw [d] at q; cases q) (fun _ q => by rw [d] at q; cases q)
    exact ⟨i, ⟨o, this.1, c, d⟩, this.2, rv.extV E.v, hr, hi⟩

end Mine

set_option Elab.async false
set_option linter.unusedVariables false
namespace Mine
open PySem PyProof.Rows

variable {C : Cx} {k : Nat} {env : Env} {ρ : Rho} {H : Hp} {R : V → Hp → Prop}

theorem Ext.new_none {H h H' h' a} (E : Ext H h H' h') (ha : h'.objs.size ≤ a) : h.get? a = none := by
  cases e : h.get? a with
  | none => rfl
  | some o => obtain ⟨o', e'⟩ := E.live a o e; exact absurd (Heap.lt_size e') (Nat.not_lt.mpr ha)

def rangeV (n : Nat) : List V := (List.range n).map fun i => V.int (i : Nat)
theorem ints_get {n i : Nat} (h : i < n) : (rangeV n)[i]? = some (.int (i : Nat)) := by simp [rangeV, h]
theorem ints_length {n : Nat} : (rangeV n).length = n := by simp [rangeV]

theorem tmp_one {I : Addr} {h : Heap} {o : Obj} {fs} (e : h.get? I = some o) (d : o.data = .fields fs) (n : H I = none) (hI : C.base.get? I = none) : Tmp C H [I] h :=
  ⟨fun b hb => by simp at hb; subst hb; exact ⟨o, _, e, d⟩, fun b hb => by simp at hb; subst hb; exact n, fun b hb => by simp at hb; subst hb; exact hI⟩

/-- letting go: nothing to do where the iterator is none of the owned-tuple kinds -/
theorem letGo_plain {M : Model} {A : Around} {E : Value → Shared → Prop} {s : Shared} {target : Expr} {I : Addr} {x : Value} {P' : Unit → Shared → Prop} {o : Obj} {n : String} {fs} (e : s.heap.get? I = some o) (c : o.cls = .type n) (d : o.data = .fields fs)
    (hn : (["enumerate", "zip", "dict_itemiterator", "dict_reverseitemiterator", "odict_iterator", "itertools.zip_longest", "itertools.pairwise"].contains n) = false) (h : P' () s) : wpAny M A (letOwnedTupleGo target (.ref I) x) P' E s := by
  unfold letOwnedTupleGo
  split
  · cases x <;> first | exact wpAny_pure h | skip
    refine wpAny_bind (wpAny_load e ?_)
    rw [c, d]; dsimp only
    rw [if_neg (by rw [hn]; simp)]
    exact wpAny_pure h
  · cases x <;> first | exact wpAny_pure h | skip
    refine wpAny_bind (wpAny_load e ?_)
    rw [c, d]; dsimp only
    rw [if_neg (by rw [hn]; simp)]
    exact wpAny_pure h
  · exact wpAny_pure h

theorem itr_range {tup : Bool} {N : Nat} {I : Addr} (hI : C.base.get? I = none) :
    ItrOK C tup I [I] (fun r H h => ∃ j : Nat, j ≤ N ∧ IsRangeIter h I (j : Int) ((N : Int) - (j : Int)) 1 ∧ H I = none ∧ r = (rangeV N).drop j) (fun _ => True) where
  tmp := by
    rintro r H h ⟨j, hj, e, n, _⟩
    exact tmp_one e rfl n hI
  next := by
    rintro A hu1 s u r H P E S hc ⟨j, hj, hit, n, hr⟩ hP
    have hu : (rangeV N)[j]? = some u := by
      have := congrArg List.head? hr
      simpa [List.head?_drop] using this.symm
    have hlt : j < N := by have := (List.getElem?_eq_some_iff.mp hu).1; rwa [ints_length] at this
    rw [ints_get hlt] at hu; cases hu
    have hrest : r = (rangeV N).drop (j + 1) := by
      have := congrArg List.tail hr
      simpa [List.tail_drop] using this
    refine wpAny_pyNext_range_item hit (by omega) fun h' hit' hs => ?_
    have M : Moved [I] s { s with heap := h', toks := s.toks + 1 } := ⟨fun b o hb e => hs.extBut b o (fun q => hb (by simp [q])) e, rfl, rfl⟩
    have st' : ∃ j : Nat, j ≤ N ∧ IsRangeIter h' I (j : Int) ((N : Int) - (j : Int)) 1 ∧ H I = none ∧ r = (rangeV N).drop j := by
      refine ⟨j + 1, hlt, ?_, n, hrest⟩
      have e1 : (((j + 1 : Nat)) : Int) = (j : Int) + 1 := by push_cast; rfl
      have e2 : (N : Int) - ((j + 1 : Nat) : Int) = (N : Int) - (j : Int) - 1 := by push_cast; omega
      rw [e2, e1]; exact hit'
    refine hP _ _ fun target _ P' hP' => ?_
    exact letGo_plain hit' rfl rfl (by decide) (hP' { s with heap := h', toks := s.toks + 1 } (.int _ _) st' M)
  done := by
    rintro A s H P E hh hu S hc ⟨j, hj, hit, n, hr⟩ hP
    have hle : N ≤ j := by
      have := congrArg List.length hr
      simp [ints_length] at this; omega
    refine wpAny_pyNext_range_end hh hit (by omega) fun h' he => ?_
    exact hP _ ⟨fun b o hb e => he b o (fun q => hb (by simp [q])) e, rfl, rfl⟩
  self := by
    rintro A s r H P E ⟨j, hj, hit, _⟩ hP
    exact wpAny_pyIter_rangeiter hit hP
  frame := by
    rintro r H h H' h' ⟨j, hj, hit, n, hr⟩ E hc
    have := E I _ hit n (fun _ _ q => by cases q) (fun _ q => by cases q)
    exact ⟨j, hj, this.1, this.2, hr⟩

/-- range(n) -/
theorem IterE.range {tup : Bool} {x p e pos} {K : List V → (Hp → Prop) → Hp → Prop} (g : GlobalV C x (.con (.type "range"))) (hk : env.kindOf x = some .globalImplicit)
    (h : EvalW C k env e (fun v H₁ => ∃ n : Int, v = .int n ∧ n < 2 ^ 62 ∧ -(2 ^ 62) ≤ n ∧ K (rangeV n.toNat) (fun _ => True) H₁) R ρ H)
    (he : starEach [e] env = [(false, eval e env)] := by rfl) (hd : (x == ("__debug__" : Str)) = false := by decide) :
    IterE C k env tup (.Call (.Name x p) [e] [] pos) K R ρ H := fun A a s S P PE hPE hP => by
  have G := EvalW.global (k := k) (env := env) (ρ := ρ) (H := H) (R := R) (p := p) (Q := fun v H' => v = .con (.type "range") ∧ H' = H) g ⟨rfl, rfl⟩ hk hd
  refine wpAny_Call_NameR (wp_go (G A a s S) (fun f v H₁ s₁ hv S₁ r₁ E₁ => ?_) hPE)
  obtain ⟨rfl, rfl⟩ := hv
  have hf : f = .type "range" := by cases r₁; rfl
  subst hf
  rw [he]
  refine PySem.callWith_type rfl (Calls.evalArgs_plain (Calls.spliced_cons (wp_go (h A a s₁ (S.ext S₁ E₁)) (fun nv v H₂ s₂ hv S₂ r₂ E₂ => Calls.spliced_nil ?_) fun _ _ p => hPE _ _ (p.after E₁))))
  obtain ⟨n, rfl, hn1, hn2, hK⟩ := hv
  cases r₂ with
  | int _ t =>
    refine call_range_1 ?_
    refine wpAny_pyIter_range (IsRange.new ..) (small_one (by decide) (by decide) hn2 hn1) ?_
    have hsz : Builtin.Range.rangeSize 0 n 1 = (n.toNat : Int) := by rw [rangeSize_one]; split <;> omega
    have hk2 : ∀ b o, s₂.heap.get? b = some o → ((s₂.heap.push { cls := .type "range", data := .fields #[.int 0 s₂.toks, .int n t, .int 1 (s₂.toks + 1)] }).push { cls := .type "range_iterator", data := .fields #[rawInt 0, rawInt (Builtin.Range.rangeSize 0 n 1), rawInt 1] }).get? b = some o :=
      fun b o e => Heap.get?_push_of_some _ (Heap.get?_push_of_some _ e)
    have hI : s₂.heap.objs.size ≤ (s₂.heap.push { cls := .type "range", data := .fields #[.int 0 s₂.toks, .int n t, .int 1 (s₂.toks + 1)] }).objs.size := by rw [Heap.size_push]; omega
    refine hP _ [_] _ _ _ _ _ hK (itr_range (N := n.toNat) (S₂.freshB hI)) trivial ⟨0, Nat.zero_le _, ?_, S₂.fresh hI, rfl⟩ ?_ (S₂.grown hk2 rfl rfl) ((E₁.trans E₂).trans (Ext.grown hk2))
    · have e2 : ((n.toNat : Int) - ((0 : Nat) : Int)) = Builtin.Range.rangeSize 0 n 1 := by rw [hsz]; simp
      rw [e2]
      exact Heap.get?_push_size _ rfl
    · intro b hb
      simp at hb; subst hb
      exact (E₁.trans E₂).new_none (by omega)

/-- a list, frozen or owned -/
theorem IterE.list {tup : Bool} {e} {K : List V → (Hp → Prop) → Hp → Prop} (h : EvalW C k env e (fun v H₁ => ∃ l, lview H₁ v = some l ∧ K l (lcond v l) H₁) R ρ H) : IterE C k env tup e K R ρ H := fun A a s S P PE hPE hP => by
  refine wp_go (h A a s S) (fun x v H₁ s₁ hv S₁ r₁ E₁ => ?_) hPE
  obtain ⟨l, hl, hK⟩ := hv
  obtain ⟨ad, xs, rfl, hL, rl⟩ := lview_list hl S₁ r₁
  have hvv : v = .lst l ∨ v = .ref ad := by
    cases r₁ with
    | lst ha ho rl => cases hl; exact .inl rfl
    | ref a => exact .inr rfl
    | _ => cases hl
  have hk : ∀ b o, s₁.heap.get? b = some o → (s₁.heap.push { cls := .type "list_iterator", data := .fields #[.ref ad, .int 0 0] }).get? b = some o := fun b o e => Heap.get?_push_of_some _ e
  refine wpAny_pyIter_list hL ?_
  refine hP _ [_] _ _ _ _ _ hK (itr_list (a := ad) hvv (S₁.freshB (Nat.le_refl _))) hl ⟨0, ⟨_, Heap.get?_push_size _ rfl, rfl, rfl⟩, S₁.fresh (Nat.le_refl _), r₁.ext (Ext.grown hk), rfl, Nat.zero_le _⟩ ?_ (S₁.grown hk rfl rfl) (E₁.trans (Ext.grown hk))
  intro b hb; simp at hb; subst hb; exact E₁.new_none (Nat.le_refl _)

theorem itr_tuple {tup : Bool} {l : List V} {a I : Addr} (hI : C.base.get? I = none) :
    ItrOK C tup I [I] (fun r H h => ∃ i, h.IsTupleIter I a i ∧ H I = none ∧ VRel h H (.tup l) (.ref a) ∧ r = l.drop i ∧ i ≤ l.length) (fun _ => True) where
  tmp := by
    rintro r H h ⟨i, ⟨o, e, c, d⟩, n, _⟩
    exact tmp_one e d n hI
  next := by
    rintro A hu1 s u r H P E S hc ⟨i, hit, n, rv, hr, hi⟩ hP
    have rv0 := rv
    cases rv with
    | @tup _ _ xs hl ho rl =>
      have hu : l[i]? = some u := by
        have := congrArg List.head? hr
        simpa [List.head?_drop] using this.symm
      have hlt : i < l.length := (List.getElem?_eq_some_iff.mp hu).1
      have hrest : r = l.drop (i + 1) := by
        have := congrArg List.tail hr
        simpa [List.tail_drop] using this
      obtain ⟨x, ex, rx⟩ := rl.get hu
      refine wpAny_pyNext_tuple_item hit hl (by simpa using ex) fun h' hit' hs => ?_
      have M : Moved [I] s { s with heap := h' } := ⟨fun b o hb e => hs.extBut b o (fun q => hb (by simp [q])) e, rfl, rfl⟩
      have T : Tmp C H [I] s.heap := by obtain ⟨o, e, c, d⟩ := hit; exact tmp_one e d n hI
      have V1 := M.extV T
      have st' : ∃ j, h'.IsTupleIter I a j ∧ H I = none ∧ VRel h' H (.tup l) (.ref a) ∧ r = l.drop j ∧ j ≤ l.length := ⟨i + 1, hit', n, rv0.extV V1, hrest, hlt⟩
      refine hP x _ fun target _ P' hP' => ?_
      obtain ⟨o, e, c, d⟩ := hit'
      exact letGo_plain e c d (by decide) (hP' { s with heap := h' } (rx.extV V1) st' M)
  done := by
    rintro A s H P E hh hu S hc ⟨i, hit, n, rv, hr, hi⟩ hP
    cases rv with
    | @tup _ _ xs hl ho rl =>
      have hlen : xs.size = l.length := by have := rl.length; simpa using this
      have hx : xs[i]? = none := by
        have : l.length ≤ i := by
          have := congrArg List.length hr
          simp at this; omega
        simp; omega
      refine wpAny_pyNext_tuple_end hh hit hl hx fun h' he => ?_
      exact hP _ ⟨fun b o hb e => he b o (fun q => hb (by simp [q])) e, rfl, rfl⟩
  self := by
    rintro A s r H P E ⟨i, hit, _⟩ hP
    exact wpAny_pyIter_tupleiter hit hP
  frame := by
    rintro r H h H' h' ⟨i, ⟨o, e, c, d⟩, n, rv, hr, hi⟩ E hc
    have := E I o e n (fun _ _ q => by rw [d] at q; cases q) (fun _ q => by rw [d] at q; cases q)
    exact ⟨i, ⟨o, this.1, c, d⟩, this.2, rv.extV E.v, hr, hi⟩
theorem IterE.tup {tup : Bool} {e} {K : List V → (Hp → Prop) → Hp → Prop} (h : EvalW C k env e (fun v H₁ => ∃ l, v = .tup l ∧ K l (fun _ => True) H₁) R ρ H) : IterE C k env tup e K R ρ H := fun A a s S P PE hPE hP => by
  refine wp_go (h A a s S) (fun x v H₁ s₁ hv S₁ r₁ E₁ => ?_) hPE
  obtain ⟨l, rfl, hK⟩ := hv
  have r0 := r₁
  cases r₁ with
  | @tup ad _ xs hL ho rl =>
    have hk : ∀ b o, s₁.heap.get? b = some o → (s₁.heap.push { cls := .type "tuple_iterator", data := .fields #[.ref ad, .int 0 0] }).get? b = some o := fun b o e => Heap.get?_push_of_some _ e
    refine wpAny_pyIter_tuple hL ?_
    refine hP _ [_] _ _ _ _ _ hK (itr_tuple (a := ad) (S₁.freshB (Nat.le_refl _))) trivial ⟨0, ⟨_, Heap.get?_push_size _ rfl, rfl, rfl⟩, S₁.fresh (Nat.le_refl _), r0.ext (Ext.grown hk), rfl, Nat.zero_le _⟩ ?_ (S₁.grown hk rfl rfl) (E₁.trans (Ext.grown hk))
    intro b hb; simp at hb; subst hb; exact E₁.new_none (Nat.le_refl _)

end Mine

set_option Elab.async false
set_option linter.unusedVariables false
namespace Mine
open PySem PyProof.Rows

variable {C : Cx} {k : Nat} {env : Env} {ρ : Rho} {H : Hp} {R : V → Hp → Prop}

def enumFrom (n : Nat) : List V → List V
  | [] => []
  | v :: r => .tup [.int (n : Nat), v] :: enumFrom (n + 1) r
def enumV (l : List V) : List V := enumFrom 0 l
theorem enumFrom_get {l : List V} : ∀ {n i : Nat}, (enumFrom n l)[i]? = (l[i]?).map fun v => V.tup [.int ((n + i : Nat) : Int), v] := by
  induction l with
  | nil => intro n i; simp [enumFrom]
  | cons v r ih =>
    intro n i
    cases i with
    | zero => simp [enumFrom]
    | succ i => simp only [enumFrom, List.getElem?_cons_succ, ih]; congr 2; funext v; congr 4; omega
theorem enumFrom_length {l : List V} : ∀ {n : Nat}, (enumFrom n l).length = l.length := by
  induction l with
  | nil => intro n; rfl
  | cons v r ih => intro n; simp [enumFrom, ih]

theorem itr_enum {v : V} {l : List V} {a e it : Addr} (hne : e ≠ it) (he0 : C.base.get? e = none) (hi0 : C.base.get? it = none) :
    ItrOK C true e [e, it] (fun r H h => ∃ (i : Nat) (old : Value), IsEnum h e it i old ∧ h.IsListIter it a i ∧ H e = none ∧ H it = none ∧ VRel h H v (.ref a) ∧ r = (enumV l).drop i ∧ i ≤ l.length) (lcond v l) where
  tmp := by
    rintro r H h ⟨i, old, e1, ⟨o, e2, c2, d2⟩, n1, n2, _⟩
    refine ⟨fun b hb => ?_, fun b hb => ?_, fun b hb => ?_⟩
    · simp at hb; rcases hb with rfl | rfl
      · exact ⟨_, _, e1, rfl⟩
      · exact ⟨o, _, e2, d2⟩
    · simp at hb; rcases hb with rfl | rfl <;> assumption
    · simp at hb; rcases hb with rfl | rfl <;> assumption
  next := by
    rintro A hu1 s u r H P E S hc ⟨i, old, he, hit, n1, n2, rv, hr, hi⟩ hP
    obtain ⟨a', xs, ea, hl, rl⟩ := lview_list hc S rv
    cases ea
    have hu : (enumV l)[i]? = some u := by
      have := congrArg List.head? hr
      simpa [List.head?_drop] using this.symm
    rw [enumV, enumFrom_get] at hu
    obtain ⟨w, hw, rfl⟩ := Option.map_eq_some_iff.mp hu
    have hlt : i < l.length := (List.getElem?_eq_some_iff.mp hw).1
    have hrest : r = (enumV l).drop (i + 1) := by
      have := congrArg List.tail hr
      simpa [List.tail_drop] using this
    obtain ⟨x, ex, rx⟩ := rl.get hw
    have T : Tmp C H [e, it] s.heap := by
      obtain ⟨o, e2, c2, d2⟩ := hit
      refine ⟨fun b hb => ?_, fun b hb => ?_, fun b hb => ?_⟩
      · simp at hb; rcases hb with rfl | rfl
        · exact ⟨_, _, he, rfl⟩
        · exact ⟨o, _, e2, d2⟩
      · simp at hb; rcases hb with rfl | rfl <;> assumption
      · simp at hb; rcases hb with rfl | rfl <;> assumption
    have heH : e < s.heap.objs.size := Heap.lt_size he
    refine wpAny_pyNext_enum_item he hit hl (by simpa using ex) hne fun h₁ heo hit₁ ht₁ hz₁ hk₁ => ?_
    have M : Moved [e, it] s { s with heap := h₁, toks := s.toks + 1 } := ⟨fun b o hb q => hk₁ b o (fun z => hb (by simp [z])) (fun z => hb (by simp [z])) q, rfl, rfl⟩
    have V1 := M.extV T
    have fr : H s.heap.objs.size = none := S.fresh (Nat.le_refl _)
    have rt : VRel h₁ H (.tup [.int ((0 + i : Nat) : Int), w]) (.ref s.heap.objs.size) := by
      rw [Nat.zero_add]
      exact .tup ⟨_, ht₁, rfl, _, rfl⟩ fr (.cons (.int _ _) (.cons (rx.extV V1) .nil))
    refine hP _ _ fun target ht P' hP' => ?_
    obtain ⟨es, n, p, rfl⟩ := ht rfl
    refine wpAny_letOwnedTupleGo_enum heo fun h₂ he₂ hs₂ => ?_
    replace hs₂ : Heap.SameBut e h₁ h₂ := hs₂
    have M2 : Moved [e, it] s { s with heap := h₂, toks := s.toks + 1 } := ⟨fun b o hb q => hs₂.extBut b o (fun z => hb (by simp [z])) (M.keep b o hb q), rfl, rfl⟩
    have V2 := M2.extV T
    refine hP' _ ?_ ⟨i + 1, x, he₂, ?_, n1, n2, rv.extV V2, hrest, hlt⟩ M2
    · rw [Nat.zero_add]
      exact .tup ⟨_, hs₂.extBut _ _ (Nat.ne_of_gt heH) ht₁, rfl, _, rfl⟩ fr (.cons (.int _ _) (.cons (rx.extV V2) .nil))
    · obtain ⟨o, q1, q2, q3⟩ := hit₁
      exact ⟨o, hs₂.extBut _ _ (Ne.symm hne) q1, q2, q3⟩
  done := by
    rintro A s H P E hh hu S hc ⟨i, old, he, hit, n1, n2, rv, hr, hi⟩ hP
    obtain ⟨a', xs, ea, hl, rl⟩ := lview_list hc S rv
    cases ea
    have hlen : xs.size = l.length := by have := rl.length; simpa using this
    have hx : xs[i]? = none := by
      have : l.length ≤ i := by
        have := congrArg List.length hr
        simp [enumV, enumFrom_length] at this; omega
      simp; omega
    refine wpAny_pyNext_enum_end hh he hit hl hx fun h' hx' => ?_
    exact hP _ ⟨fun b o hb q => hx' b o (fun z => hb (by simp [z])) q, rfl, rfl⟩
  self := by
    rintro A s r H P E ⟨i, old, he, hit, _⟩ hP
    exact wpAny_pyIter_enum he hP
  frame := by
    rintro r H h H' h' ⟨i, old, he, ⟨o, e2, c2, d2⟩, n1, n2, rv, hr, hi⟩ E hc
    have q1 := E e _ he n1 (fun _ _ q => by cases q) (fun _ q => by cases q)
    have q2 := E it o e2 n2 (fun _ _ q => by rw [d2] at q; cases q) (fun _ q => by rw [d2] at q; cases q)
    exact ⟨i, old, q1.1, ⟨o, q2.1, c2, d2⟩, q1.2, q2.2, rv.extV E.v, hr, hi⟩

/-- enumerate(xs), taken apart by a tuple of names -/
theorem IterE.enum {x p e pos} {K : List V → (Hp → Prop) → Hp → Prop} (g : GlobalV C x (.con (.type "enumerate"))) (hk : env.kindOf x = some .globalImplicit)
    (h : EvalW C k env e (fun v H₁ => ∃ l, lview H₁ v = some l ∧ K (enumV l) (lcond v l) H₁) R ρ H)
    (he : starEach [e] env = [(false, eval e env)] := by rfl) (hd : (x == ("__debug__" : Str)) = false := by decide) :
    IterE C k env true (.Call (.Name x p) [e] [] pos) K R ρ H := fun A a s S P PE hPE hP => by
  have G := EvalW.global (k := k) (env := env) (ρ := ρ) (H := H) (R := R) (p := p) (Q := fun v H' => v = .con (.type "enumerate") ∧ H' = H) g ⟨rfl, rfl⟩ hk hd
  refine wpAny_Call_NameR (wp_go (G A a s S) (fun f v H₁ s₁ hv S₁ r₁ E₁ => ?_) hPE)
  obtain ⟨rfl, rfl⟩ := hv
  have hf : f = .type "enumerate" := by cases r₁; rfl
  subst hf
  rw [he]
  refine PySem.callWith_type rfl (Calls.evalArgs_plain (Calls.spliced_cons (wp_go (h A a s₁ (S.ext S₁ E₁)) (fun y v H₂ s₂ hv S₂ r₂ E₂ => Calls.spliced_nil ?_) fun _ _ p => hPE _ _ (p.after E₁))))
  obtain ⟨l, hl, hK⟩ := hv
  obtain ⟨ad, xs, rfl, hL, rl⟩ := lview_list hl S₂ r₂
  refine call_enumerate_list hL fun h' he' hit' hz' hk' => ?_
  refine wpAny_pyIter_enum he' ?_
  have E3 : Ext H₂ s₂.heap H₂ h' := Ext.grown hk'
  refine hP _ _ _ _ _ _ _ hK (itr_enum (v := v) (l := l) (a := ad) (e := s₂.heap.objs.size + 1) (it := s₂.heap.objs.size) (Nat.succ_ne_self _) (S₂.freshB (by omega)) (S₂.freshB (Nat.le_refl _))) hl
    ⟨0, _, he', hit', S₂.fresh (by omega), S₂.fresh (Nat.le_refl _), r₂.ext E3, rfl, Nat.zero_le _⟩ ?_ (S₂.grown hk' rfl rfl) ((E₁.trans E₂).trans E3)
  intro b hb
  simp at hb
  rcases hb with rfl | rfl
  · exact (E₁.trans E₂).new_none (by omega)
  · exact (E₁.trans E₂).new_none (Nat.le_refl _)

end Mine

set_option Elab.async false
set_option linter.unusedVariables false
namespace Mine
open PySem PyProof.Rows

section
variable {prog : Program} {w : World} {A : Around} {R : Result → Shared → Prop} {s : Shared}
theorem compLoop_any {elt target iter : Expr} {ifs : List Expr} {scope : Scope} {pos : Pos} {it acc : Value} {env : Env} (I : Nat → Shared → Prop)
    (turn : ∀ n s, I n s → wpAny (model prog w) A (pyNext it) (fun r s₁ => match r with
      | none => R (.ok .next) s₁
      | some v => wpAny (model prog w) A (letOwnedTupleGo target it v) (fun _ s₁' => wpAny (model prog w) A (assign target env v) (fun _ s₂ =>
          wpAny (model prog w) A (forIn ifs true fun c r => if r = true then do let ok ← isTrue c env (eval c env); pure (ForInStep.yield ok) else pure (ForInStep.yield r)) (fun ok s₃ =>
            if ok = true then wpAny (model prog w) A (eval elt env) (fun x s₄ =>
              wpAny (model prog w) A (call (.builtin "list.append") [acc, x]) (fun _ s₅ => ∃ m, m < n ∧ I m s₅) (notedBy (model prog w) A env fun e s' => R (.error e) s') s₄) (notedBy (model prog w) A env fun e s' => R (.error e) s') s₃
            else ∃ m, m < n ∧ I m s₃) (notedBy (model prog w) A env fun e s' => R (.error e) s') s₂) (notedBy (model prog w) A env fun e s' => R (.error e) s') s₁') (notedBy (model prog w) A env fun e s' => R (.error e) s') s₁) (notedBy (model prog w) A env fun e s' => R (.error e) s') s)
    (n : Nat) (h : I n s) : codeAny (model prog w) A (.compLoop (.ListComp elt [⟨target, iter, ifs, 0⟩] scope pos) 0 it acc env) R s := by
  refine codeAny_loop rfl I (fun n s hI => ?_) n h
  show wpAny _ A ((compTurn (.ListComp elt [⟨target, iter, ifs, 0⟩] scope pos) 0 it acc env).onRaise (fun x => do noteFrame x env; theTreesLotGoes x)) _ _ s
  refine wpAny_noted ?_
  rw [compTurn_list]
  refine wpAny_bind (wpAny_standAt (wpAny_bind (wpAny_mono (turn n s hI) (fun r s₁ h₁ => ?_) fun _ _ h' => h')))
  cases r with
  | none => exact wpAny_pure h₁
  | some v =>
    refine wpAny_bind (wpAny_mono h₁ (fun _ s₁' h₁ => ?_) fun _ _ h' => h')
    refine wpAny_bind (wpAny_mono h₁ (fun _ s₂ h₂ => wpAny_bind (wpAny_mono h₂ (fun ok s₃ h₃ => ?_) fun _ _ h' => h')) fun _ _ h' => h')
    cases ok with
    | false => exact wpAny_pure ⟨rfl, h₃⟩
    | true =>
      exact wpAny_bind (wpAny_bind (wpAny_mono h₃ (fun x s₄ h₄ => wpAny_bind (wpAny_mono h₄ (fun _ s₅ h₅ => wpAny_pure (wpAny_pure ⟨rfl, h₅⟩)) fun _ _ h' => h')) fun _ _ h' => h'))
end

/-- the tests of a comprehension -/
def IfsW (C : Cx) (k : Nat) (env : Env) (ifs : List Expr) (Q : Bool → Hp → Prop) (R : V → Hp → Prop) (ρ : Rho) (H : Hp) : Prop :=
  ∀ A, Lv C k A → ∀ s, SimL C env ρ H s → wpAny C.M A (forIn ifs true fun c r => if r = true then do let ok ← isTrue c env (eval c env); pure (ForInStep.yield ok) else pure (ForInStep.yield r)) (Post C H s.heap BRel Q) (Post C H s.heap VRel R) s

variable {C : Cx} {k : Nat} {env : Env} {ρ : Rho} {H : Hp} {Q R : V → Hp → Prop} {QB : Bool → Hp → Prop}
theorem IfsW.nil (h : QB true H) : IfsW C k env [] QB R ρ H := fun A a s S => wpAny_tests_nil (Post.here h S.sim rfl rfl)
theorem IfsW.one {c} (h : TestW C k env c QB R ρ H) : IfsW C k env [c] QB R ρ H := fun A a s S => wpAny_tests_one (h A a s S)

/-- the names that a comprehension sees -/
def Rho.hide (scope : Scope) (ρ : Rho) : Rho := fun y => if scope.names.lookup y = some .local then none else ρ y
def Rho.le (ρ ρ' : Rho) : Prop := ∀ y w, ρ y = some w → ρ' y = some w
theorem SimL.weaken {ρ' s} (S : SimL C env ρ' H s) (h : Rho.le ρ ρ') : SimL C env ρ H s :=
  let ⟨m, cm, F, r⟩ := S.frm; ⟨S.sim, S.kind, S.globals, S.builtins, m, cm, F, fun x v e => r x v (h x v e)⟩

/-- the cells that a comprehension closes over -/
def closL (cells : List (Str × Addr)) : List (Str × NameKind) → List (Str × Addr) → List (Str × Addr)
  | [], acc => acc
  | (n, kd) :: r, acc => if kd == .free then closL cells r ((n, (cells.lookup n).getD 0) :: acc) else closL cells r acc
theorem closureFor_eq {scope : Scope} (h : ∀ x ∈ scope.names, x.2 = .free → (env.cells.lookup x.1).isSome = true) : closureFor scope env = pure (closL env.cells scope.names []) := by
  have key : ∀ (names : List (Str × NameKind)) (acc : List (Str × Addr)), (∀ x ∈ names, x.2 = .free → (env.cells.lookup x.1).isSome = true) →
      (forIn names acc fun (x : Str × NameKind) r => match x with | (name, kind) => if (kind == .free) = true then do let a ← cellOf env name; pure (ForInStep.yield ((name, a) :: r)) else pure (ForInStep.yield r) : Sem (List (Str × Addr))) = pure (closL env.cells names acc) := by
    intro names
    induction names with
    | nil => intro acc _; rfl
    | cons x r ih =>
      obtain ⟨n, kd⟩ := x
      intro acc hx
      rw [List.forIn_cons]
      unfold closL
      by_cases hk : (kd == NameKind.free) = true
      · obtain ⟨c, hc⟩ := Option.isSome_iff_exists.mp (hx (n, kd) (.head _) (by simpa using hk))
        simp only [hk, if_true]
        have : cellOf env n = pure c := by unfold cellOf; rw [hc]
        rw [this, pure_bind, pure_bind]
        simp only [hc, Option.getD_some]
        exact ih _ fun y hy => hx y (.tail _ hy)
      · simp only [hk, if_false, Bool.false_eq_true]
        rw [pure_bind]
        exact ih _ fun y hy => hx y (.tail _ hy)
  have := key scope.names [] h
  unfold closureFor
  simp only [bind_pure]
  exact this
theorem closL_lookup (cells : List (Str × Addr)) : ∀ (names : List (Str × NameKind)) (acc : List (Str × Addr)) (x : Str) (c : Addr), (∀ y ∈ names, y.2 = .free → (cells.lookup y.1).isSome = true) → (∀ y c', acc.lookup y = some c' → cells.lookup y = some c') →
    (closL cells names acc).lookup x = some c → cells.lookup x = some c
  | [], acc, x, c, _, ha, e => ha x c e
  | (n, kd) :: r, acc, x, c, hn, ha, e => by
    unfold closL at e
    split at e
    · rename_i hk
      obtain ⟨c', hc'⟩ := Option.isSome_iff_exists.mp (hn (n, kd) (.head _) (by simpa using hk))
      refine closL_lookup cells r _ x c (fun y hy => hn y (.tail _ hy)) (fun y c'' ey => ?_) e
      rw [List.lookup_cons] at ey
      split at ey
      · rename_i hb; cases ey; rw [beq_iff_eq.mp hb, hc']; rfl
      · exact ha y c'' ey
    · exact closL_lookup cells r _ x c (fun y hy => hn y (.tail _ hy)) ha e
theorem closL_isSome (cells : List (Str × Addr)) : ∀ (names : List (Str × NameKind)) (acc : List (Str × Addr)) (x : Str), (names.lookup x = some .free ∨ (acc.lookup x).isSome = true) → ((closL cells names acc).lookup x).isSome = true
  | [], acc, x, h => by rcases h with h | h; · cases h
                        · exact h
  | (y, kd) :: r, acc, x, h => by
    unfold closL
    rw [List.lookup_cons] at h
    split
    · rename_i hk
      refine closL_isSome cells r _ x ?_
      rw [List.lookup_cons]
      by_cases q : (x == y) = true
      · rw [q]; exact .inr rfl
      · have q' : (x == y) = false := by simpa using q
        rw [q'] at h ⊢; exact h
    · rename_i hk
      refine closL_isSome cells r _ x ?_
      by_cases q : (x == y) = true
      · rw [q] at h
        rcases h with h | h
        · simp only [Option.some.injEq] at h; rw [h] at hk; simp at hk
        · exact .inr h
      · have q' : (x == y) = false := by simpa using q
        rw [q'] at h; exact h

theorem lookup_relabel {env : Env} : ∀ {names : List (Str × NameKind)} {x : Str} {kd : NameKind}, (names.map fun (n, k) => if (k == NameKind.free && env.scope.kind == .function && env.kindOf n == some .cell) then (n, NameKind.cell) else (n, k)).lookup x = some kd →
    names.lookup x = some kd ∨ (names.lookup x = some .free ∧ kd = .cell)
  | [], _, _, h => by simp at h
  | (n, k) :: r, x, kd, h => by
    have ih := @lookup_relabel env r x kd
    rw [List.lookup_cons]
    rw [List.map_cons] at h
    dsimp only at h
    by_cases hc : (k == NameKind.free && env.scope.kind == .function && env.kindOf n == some .cell) = true
    · rw [if_pos hc, List.lookup_cons] at h
      cases hx : x == n with
      | true => simp only [hx, Option.some.injEq] at h; right; refine ⟨?_, h.symm⟩
                have : k = .free := by simp at hc; exact hc.1.1
                rw [this]
      | false => simp only [hx] at h ⊢; exact ih h
    · rw [if_neg hc, List.lookup_cons] at h
      cases hx : x == n with
      | true => simp only [hx] at h ⊢; exact .inl h
      | false => simp only [hx] at h ⊢; exact ih h

structure CompScope (env : Env) (scope : Scope) : Prop where
  kind : scope.kind = .function
  nocell : ∀ x ∈ scope.names, x.2 ≠ .cell
  names : ∀ x ∈ scope.names, x.2 = .local → scope.names.lookup x.1 = some .local
  free : ∀ x ∈ scope.names, x.2 = .free → (env.cells.lookup x.1).isSome = true
  frees : ∀ x, scope.names.lookup x = some .free → env.kindOf x = some .cell ∨ env.kindOf x = some .free

abbrev cenvOf (env : Env) (scope : Scope) (L : Addr) : Env := compEnvC scope (closL env.cells scope.names []) L env

/-- in the comprehension's frame -/
theorem comp_enter {s₃ s₄ : Shared} {scope : Scope} (cs : CompScope env scope) (S : SimL C env ρ H s₃) (hk : ∀ a o, s₃.heap.get? a = some o → s₄.heap.get? a = some o) (hg : s₄.gens = s₃.gens) (ho : s₄.os = s₃.os) {L : Addr} {m₀ : Str → Option Value}
    (hns : s₄.heap.Ns L m₀) (hL : s₃.heap.objs.size ≤ L) : SimL C (cenvOf env scope L) (Rho.hide scope ρ) H s₄ := by
  have S₄ := S.sim.grown hk hg ho
  have SL := S.ext S₄ (Ext.grown hk)
  obtain ⟨m, cm, F, r⟩ := SL.frm
  have look : ∀ x c, (closL env.cells scope.names []).lookup x = some c → env.cells.lookup x = some c := fun x c e => closL_lookup _ _ _ x c cs.free (fun y c' e => by cases e) e
  refine ⟨S₄, cs.kind, S.globals, S.builtins, m₀, cm, ⟨hns, fun n c e => F.cell n c (look n c e), S.sim.fresh hL, fun n c e => F.ownc n c (look n c e), S.sim.freshB hL, fun n c e => F.abovec n c (look n c e), fun n n' c e e' => F.apart n n' c (look n c e) (look n' c e')⟩, fun x v e => ?_⟩
  unfold Rho.hide at e
  split at e
  · cases e
  · rename_i hx
    have rx := r x v e
    unfold LocRel
    have hkind : Env.kindOf (cenvOf env scope L) x = (relabel scope env).names.lookup x := rfl
    cases q : (relabel scope env).names.lookup x with
    | none => rw [hkind, q]; trivial
    | some kd =>
      rw [hkind, q]
      rcases lookup_relabel q with q' | ⟨q', rfl⟩
      · cases kd with
        | «local» => exact absurd q' hx
        | cell => exact absurd rfl (cs.nocell (x, .cell) (mem_of_lookup q'))
        | free =>
          obtain ⟨c, hc⟩ := Option.isSome_iff_exists.mp (closL_isSome env.cells scope.names [] x (.inl q'))
          unfold LocRel at rx
          rcases cs.frees x q' with z | z <;> rw [z] at rx
          · obtain ⟨u, c', a, b, d⟩ := rx; exact ⟨u, c, hc, b, d⟩
          · obtain ⟨u, c', a, b, d⟩ := rx; exact ⟨u, c, hc, b, d⟩
        | _ => trivial
      · obtain ⟨c, hc⟩ := Option.isSome_iff_exists.mp (closL_isSome env.cells scope.names [] x (.inl q'))
        unfold LocRel at rx
        rcases cs.frees x q' with z | z <;> rw [z] at rx
        · obtain ⟨u, c', a, b, d⟩ := rx; exact ⟨u, c, hc, b, d⟩
        · obtain ⟨u, c', a, b, d⟩ := rx; exact ⟨u, c, hc, b, d⟩

end Mine

set_option Elab.async false
set_option linter.unusedVariables false
namespace Mine
open PySem PyProof.Rows

variable {C : Cx} {k : Nat} {env : Env} {ρ : Rho} {H : Hp} {Q R : V → Hp → Prop}

/-- an owned object is changed -/
theorem Sim.update {s s' : Shared} {a : Addr} {o o' : O} (S : Sim C H s) (ha : H a = some o) (hs : Heap.SameBut a s.heap s'.heap) (hl : ∃ ob, s'.heap.get? a = some ob) (hg : s'.gens = s.gens) (ho : s'.os = s.os)
    (hr : ORel C s'.heap (H.set a o') a o') : Sim C (H.set a o') s' ∧ Ext H s.heap (H.set a o') s'.heap := by
  have hne : ∀ b, H b = none → b ≠ a := fun b e q => by subst q; rw [ha] at e; cases e
  have E : Ext H s.heap (H.set a o') s'.heap := by
    refine ⟨fun b ob e n => (hs.2 b (hne b n)).trans e, fun b ob e n => ?_, fun b ob e => ?_⟩
    · unfold Hp.set; rw [if_neg (hne b n)]; exact n
    · by_cases q : b = a
      · subst q; exact hl
      · exact ⟨ob, (hs.2 b q).trans e⟩
  refine ⟨⟨fun b ob e => (hs.2 b fun q => ?_).trans (S.keep b ob e), hg.trans S.gens, ho.trans S.os, fun b o'' e => ?_, fun b e => ?_⟩, E⟩
  · subst q; rw [(S.new b (by rw [ha]; simp)).1] at e; cases e
  · unfold Hp.set at e
    split at e
    · rename_i q; subst q; cases e; exact hr
    · rename_i q
      exact (S.objs b o'' e).same E.v (hs.2 b q)
  · unfold Hp.set at e
    split at e
    · rename_i q; subst q; exact S.new b (by rw [ha]; simp)
    · exact S.new b e

theorem append_W {A : Around} {a : Addr} {l : List V} {v : V} {x : Value} {s : Shared} {E : Value → Shared → Prop} {P : Value → Shared → Prop} (S : Sim C H s) (ha : H a = some (.list l)) (hn : l.length ≤ 1000) (r : VRel s.heap H v x)
    (h : ∀ s', Sim C (H.set a (.list (l ++ [v]))) s' → Ext H s.heap (H.set a (.list (l ++ [v]))) s'.heap → P .none s') : wpAny C.M A (call (.builtin "list.append") [.ref a, x]) P E s := by
  obtain ⟨xs, hl, rl⟩ := S.objs _ _ ha
  have hz : xs.size = l.length := by have := rl.length; simpa using this
  refine wpAny_list_append_plain hl (fun h' hl' hs => ?_) (by rw [hz]; exact Nat.le_trans hn (by decide))
  have hex : ∃ ob, h'.get? a = some ob := let ⟨_, e⟩ := hl'; ⟨_, e⟩
  have hne : ∀ b, H b = none → b ≠ a := fun b e q => by subst q; rw [ha] at e; cases e
  have E0 : ExtV H s.heap (H.set a (.list (l ++ [v]))) h' := fun b ob _ _ e _ n => ⟨(hs.2 b (hne b n)).trans e, by unfold Hp.set; rw [if_neg (hne b n)]; exact n⟩
  obtain ⟨S', E'⟩ := S.update (s' := { s with heap := h' }) (o' := .list (l ++ [v])) ha hs hex rfl rfl ⟨_, hl', by simpa using (rl.extV E0).append (.cons (r.extV E0) .nil)⟩
  exact h _ S' E'

/-- names stored in the frame's own table alone -/
def AssignL (C : Cx) (k : Nat) (env : Env) (target : Expr) (v : V) (Q : Rho → Prop) (ρ : Rho) (H : Hp) : Prop :=
  ∀ A, Lv C k A → ∀ s x, SimL C env ρ H s → VRel s.heap H v x → ∀ (P : Unit → Shared → Prop) E, (∀ ρ' s', Q ρ' → SimL C env ρ' H s' → ExtF env H s.heap H s'.heap → (∀ a o, a ≠ env.locals → s.heap.get? a = some o → s'.heap.get? a = some o) → P () s') → wpAny C.M A (assign target env x) P E s
theorem AssignL.name {x p v} {Q : Rho → Prop} (hk : env.kindOf x = some .local) (h : Q (ρ.set x v)) : AssignL C k env (.Name x p) v Q ρ H := fun A a s u S r P E hP =>
  wpAny_assign_Name (store_local hk S r fun s' S' E' hk' _ => hP _ s' h S' E' hk')
inductive StL (env : Env) : List Expr → List Str → Prop
  | nil : StL env [] []
  | cons {x : Str} {p : Pos} {es : List Expr} {xs : List Str} (hx : env.kindOf x = some .local) (hr : StL env es xs) : StL env (.Name x p :: es) (x :: xs)
theorem StL.a {es xs} (h : StL env es xs) : StA env es xs := by
  induction h with
  | nil => exact .nil
  | cons hx hr ih => exact .cons (.inl hx) ih
theorem assignInOrder_L {A : Around} {E : Value → Shared → Prop} {P : Unit → Shared → Prop} {es : List Expr} {xs : List Str} (hst : StL env es xs) : ∀ (vs : List V) (us : List Value) (ρ : Rho) (s : Shared), vs.length = xs.length → SimL C env ρ H s → VRelL s.heap H vs us →
    (∀ s', SimL C env (setAll ρ xs vs) H s' → ExtF env H s.heap H s'.heap → (∀ a o, a ≠ env.locals → s.heap.get? a = some o → s'.heap.get? a = some o) → P () s') → wpAny C.M A (assignInOrder ((assignEach es env).map (·.2)) us) P E s := by
  induction hst with
  | nil =>
    intro vs us ρ s hl S r h
    cases vs with
    | nil => cases r; exact wpAny_pure (h s S (ExtF.refl _ _ _) fun _ _ _ e => e)
    | cons v t => cases hl
  | @cons x p es xs hx hr ih =>
    intro vs us ρ s hl S r h
    cases r with
    | nil => cases hl
    | @cons v u vs us rv rl =>
      show wpAny C.M A (assignInOrder (assign (.Name x p) env :: (assignEach es env).map (·.2)) (u :: us)) P E s
      unfold assignInOrder
      refine wpAny_bind (wpAny_holding (wpAny_assign_Name (store_local hx S rv fun s' S' E' hk' _ => ?_)))
      exact ih vs us (ρ.set x v) s' (by simpa using hl) S' (rl.extV (E'.w S).v) fun s'' S'' E'' hk'' => h s'' S'' (E'.trans E'') fun a o n e => hk'' a o n (hk' a o n e)
theorem AssignL.tuple {es n p xs vs} {Q : Rho → Prop} (hst : StL env es xs) (hl : vs.length = xs.length) (hd : C.hd = true) (h : Q (setAll ρ xs vs)) : AssignL C k env (.Tuple es n p) (.tup vs) Q ρ H := fun A a s u S r P E hP => by
  cases r with
  | @tup ad l ys ha ho rl =>
    obtain ⟨l1, l2⟩ := assignEach_length hst.a
    have hz : ys.size = vs.length := by have := rl.length; simpa using this
    refine wpAny_assign_Tuple (a.handled hd) ha (l1.trans (hl.symm.trans hz.symm)) l2 fun h' he => ?_
    have hk : ∀ b o, s.heap.get? b = some o → h'.get? b = some o := fun b o e => he b o (Nat.ne_of_lt (Heap.lt_size e)) e
    have S1 : Sim C H { s with heap := h' } := S.sim.grown (s' := { s with heap := h' }) hk rfl rfl
    have SL : SimL C env ρ H { s with heap := h' } := S.ext S1 (Ext.grown hk)
    exact assignInOrder_L hst vs ys.toList ρ { s with heap := h' } hl SL (rl.ext (Ext.grown hk)) fun s' S' E' hk' => hP _ s' h S' ((Ext.grown hk).toF.trans E') fun b o n e => hk' b o n (hk b o e)

def compOk (env : Env) (scope : Scope) : Bool :=
  (scope.kind == .function) && scope.names.all (fun x => x.2 != .cell && (x.2 != .local || scope.names.lookup x.1 == some .local) && (x.2 != .free || ((env.cells.lookup x.1).isSome && (env.kindOf x.1 == some .cell || env.kindOf x.1 == some .free))))
theorem CompScope.of {scope : Scope} (h : compOk env scope = true) : CompScope env scope := by
  unfold compOk at h
  simp only [Bool.and_eq_true, beq_iff_eq, List.all_eq_true, Bool.or_eq_true, bne_iff_ne, ne_eq] at h
  refine ⟨h.1, fun x hx => (h.2 x hx).1.1, fun x hx hl => ?_, fun x hx hf => ?_, fun x hx => ?_⟩
  · rcases (h.2 x hx).1.2 with q | q
    · exact absurd hl q
    · exact q
  · rcases (h.2 x hx).2 with q | q
    · exact absurd hf q
    · exact q.1
  · rcases (h.2 (x, .free) (mem_of_lookup hx)).2 with q | q
    · exact absurd rfl q
    · exact q.2

/-- the comprehension's loop; D is the list that it fills -/
theorem comp_loop {elt target iter : Expr} {ifs : List Expr} {scope : Scope} {pos : Pos} {I : Addr} {wr : List Addr} {St : List V → Hp → Heap → Prop} {cond : Hp → Prop} {tup : Bool} (IT : ItrOK C tup I wr St cond) (ht : IsTupleE tup target) (hd : C.hd = true) {A : Around} (lv : Lv C k A)
    {cenv : Env} {ρc : Rho} {D : Addr}
    (Inv : List V → List V → Hp → Prop) (hc : ∀ r acc H, Inv r acc H → cond H ∧ H D = some (.list acc) ∧ acc.length ≤ 1000)
    (step : ∀ v r acc H, Inv (v :: r) acc H → AssignL C k cenv target v (fun ρ' => Rho.le ρc ρ' ∧ IfsW C k cenv ifs (fun b H₁ => if b = true then EvalW C k cenv elt (fun u H₂ => H₂ D = some (.list acc) ∧ Inv r (acc ++ [u]) (H₂.set D (.list (acc ++ [u])))) (fun _ _ => False) ρ' H₁ else Inv r acc H₁) (fun _ _ => False) ρ' H) ρc H)
    {h₀ : Heap} {H₀ : Hp} (hn : ∀ b ∈ wr, h₀.get? b = none) (hL : h₀.get? cenv.locals = none) {PE : Result → Shared → Prop}
    (hPE : ∀ acc H s', Inv [] acc H → SimL C cenv ρc H s' → Ext H₀ h₀ H s'.heap → PE (.ok .next) s')
    (items acc : List V) (s : Shared) (S : SimL C cenv ρc H s) (E : Ext H₀ h₀ H s.heap) (st : St items H s.heap) (h0 : Inv items acc H) :
    codeAny C.M A (.compLoop (.ListComp elt [⟨target, iter, ifs, 0⟩] scope pos) 0 (.ref I) (.ref D) cenv) PE s := by
  have hu : A.units + 1 < cLine := by have := lv.units; omega
  refine compLoop_any (fun n s' => ∃ r acc H, n = r.length + 1 ∧ Inv r acc H ∧ SimL C cenv ρc H s' ∧ Ext H₀ h₀ H s'.heap ∧ St r H s'.heap) ?_ (items.length + 1) ⟨items, acc, H, rfl, h0, S, E, st⟩
  rintro n s ⟨r, acc, H, rfl, hI, S, E, st⟩
  have T := IT.tmp _ _ _ st
  cases r with
  | nil =>
    refine IT.done A s H _ _ (lv.handled hd) hu S.sim (hc _ _ _ hI).1 st fun s' M => ?_
    exact hPE acc H _ hI (S.moved T M) (E.moved M hn)
  | cons v r =>
    refine IT.next A hu s v r H _ _ S.sim (hc _ _ _ hI).1 st fun x s' hlet => ?_
    refine hlet target ht _ fun s'' rx'' st'' M'' => ?_
    have S'' := S.moved T M''
    have E'' := E.moved M'' hn
    refine step v r acc H hI A lv s'' x S'' rx'' _ _ fun ρ' s₃ hb S₃ E₃ hk₃ => ?_
    obtain ⟨hle, hb⟩ := hb
    have E₃' : Ext H₀ h₀ H s₃.heap := by
      have hb : ∀ a o, h₀.get? a = some o → a ≠ cenv.locals := fun a o e q => by rw [q, hL] at e; cases e
      exact ⟨fun a o e n => hk₃ a o (hb a o e) (E''.keep a o e n), E''.grow, fun a o e => let ⟨o', e'⟩ := E''.live a o e; ⟨o', hk₃ a o' (hb a o e) e'⟩⟩
    have st₃ : ExtW H s''.heap H s₃.heap := E₃.w S''
    refine wpAny_mono (hb A lv s₃ S₃) ?_ ?_
    · rintro b s₄ ⟨b', H₄, q, S₄, rfl, E₄⟩
      cases b'
      · simp only [Bool.false_eq_true, if_false] at q ⊢
        refine ⟨r.length + 1, by simp, r, acc, H₄, rfl, q, (S₃.ext S₄ E₄).weaken hle, E₃'.trans E₄, IT.frame _ _ _ _ _ st'' (st₃.trans E₄.w) (hc _ _ _ q).1⟩
      · simp only [if_true] at q ⊢
        refine wpAny_mono (q A lv s₄ (S₃.ext S₄ E₄)) ?_ ?_
        · rintro y s₅ ⟨u, H₅, ⟨hD, hI'⟩, S₅, r₅, E₅⟩
          have hlen : acc.length ≤ 1000 := (hc _ _ _ hI).2.2
          refine append_W S₅ hD hlen r₅ fun s₆ S₆ E₆ => ?_
          refine ⟨r.length + 1, by simp, r, acc ++ [u], _, rfl, hI', (S₃.ext S₆ (E₄.trans (E₅.trans E₆))).weaken hle, E₃'.trans (E₄.trans (E₅.trans E₆)), ?_⟩
          exact IT.frame _ _ _ _ _ st'' (st₃.trans (E₄.trans (E₅.trans E₆)).w) (hc _ _ _ hI').1
        · rintro e s₅ ⟨_, _, q, _⟩; exact q.elim
    · rintro e s₄ ⟨_, _, q, _⟩; exact q.elim

end Mine

set_option Elab.async false
set_option linter.unusedVariables false
namespace Mine
open PySem PyProof.Rows

variable {C : Cx} {k : Nat} {env : Env} {ρ : Rho} {H : Hp} {Q R : V → Hp → Prop}

/-- what a comprehension's walk wants: an invariant over the list D that is filled, what is left, what is made -/
structure CompInv (C : Cx) (k : Nat) (env : Env) (elt target : Expr) (ifs : List Expr) (scope : Scope) (ρ : Rho) (Inv : Addr → List V → List V → Hp → Prop) : Prop where
  len : ∀ D r acc H, Inv D r acc H → H D = some (.list acc) ∧ acc.length ≤ 1000
  step : ∀ L D v r acc H, Inv D (v :: r) acc H → AssignL C k (cenvOf env scope L) target v (fun ρ' => Rho.le (Rho.hide scope ρ) ρ' ∧
    IfsW C k (cenvOf env scope L) ifs (fun b H₁ => if b = true then EvalW C k (cenvOf env scope L) elt (fun u H₂ => H₂ D = some (.list acc) ∧ Inv D r (acc ++ [u]) (H₂.set D (.list (acc ++ [u])))) (fun _ _ => False) ρ' H₁
      else Inv D r acc H₁) (fun _ _ => False) ρ' H) (Rho.hide scope ρ) H

theorem comp_core {elt target iter : Expr} {ifs : List Expr} {scope : Scope} {pos p' : Pos} {use : Option (Value → Sem Unit)} {A : Around} (a : Lv C k A) (cs : CompScope env scope) (hd : C.hd = true) {tup : Bool} (ht : IsTupleE tup target)
    (FIN : Addr → List V → Hp → Prop)
    (h : IterE C k env tup iter (fun items cond H₁ => ∃ Inv, CompInv C k env elt target ifs scope ρ Inv ∧ (∀ D, H₁ D = none → Inv D items [] (H₁.set D (.list []))) ∧ (∀ D r acc H, Inv D r acc H → cond H) ∧ ∀ D acc H', Inv D [] acc H' → FIN D acc H') R ρ H)
    {s : Shared} (S : SimL C env ρ H s) {P : Value → Shared → Prop} {E : Value → Shared → Prop} (hE : ∀ e s', Post C H s.heap VRel R e s' → E e s')
    (fin : ∀ D acc H' s' L m, FIN D acc H' → SimL C env ρ H' s' → Ext H s.heap H' s'.heap → s'.heap.Ns L m → s.heap.get? L = none → H' L = none → C.base.get? L = none → compPost C.M A E use P (.ref D) L (.ok .next) s')
    (hs : ∀ x, foldedSetIterable iter env x = pure x) :
    wpAny C.M A (comprehension (.ListComp elt [⟨target, iter, ifs, 0⟩] scope pos) scope env p' (newList []) false (eval iter env) use) P E s := by
  refine wpAny_comprehension_free (cl := closL env.cells scope.names []) rfl hs (closureFor_eq cs.free) cs.kind cs.names ?_
  refine h A a s S _ _ hE ?_
  rintro I wr St items cond H₂ s₂ ⟨Inv, CI, hI0, hcond, hfin⟩ IT hcd st hn S₂ E₂
  refine newList_W S₂ .nil (Nat.zero_le _) fun D s₃ hD S₃ E₃ => ?_
  refine wpAny_newFunctionEnv cs.nocell (by intro y hy; simp at hy) (fun h₁ hns₁ hsb₁ => ?_) cs.kind
  have hk₃ : ∀ b o, s₃.heap.get? b = some o → h₁.get? b = some o := fun b o e => hsb₁.extBut b o (Nat.ne_of_lt (Heap.lt_size e)) (Heap.get?_push_of_some _ e)
  have hI1 := hI0 D hD
  have E02 := E₂.trans E₃
  have E04 : Ext H s.heap (H₂.set D (.list [])) h₁ := E02.trans (Ext.grown hk₃)
  have hL0 : s.heap.get? s₃.heap.objs.size = none := E02.new_none (Nat.le_refl _)
  have S₃L := S.ext S₃ E02
  have S₄ : SimL C (cenvOf env scope s₃.heap.objs.size) (Rho.hide scope ρ) (H₂.set D (.list [])) { s₃ with heap := h₁, toks := s₃.toks + ([] : List (Str × Value)).length } :=
    comp_enter (s₄ := { s₃ with heap := h₁, toks := s₃.toks + ([] : List (Str × Value)).length }) cs S₃L hk₃ rfl rfl hns₁ (Nat.le_refl _)
  have st₄ : St items (H₂.set D (.list [])) h₁ := IT.frame _ _ _ _ _ st (E₃.trans (Ext.grown hk₃)).w (hcond _ _ _ _ hI1)
  have loop : ∀ s₅ : Shared, s₅ = { s₃ with heap := h₁, toks := s₃.toks + ([] : List (Str × Value)).length } →
      codeAny C.M A (.compLoop (.ListComp elt [⟨target, iter, ifs, 0⟩] scope pos) 0 (.ref I) (.ref D) (cenvOf env scope s₃.heap.objs.size)) (compPost C.M A E use P (.ref D) s₃.heap.objs.size) s₅ := by
    rintro s₅ rfl
    refine comp_loop IT ht hd a (Inv D) (fun r acc H' hi => ⟨hcond _ _ _ _ hi, CI.len _ _ _ _ hi⟩) (fun v r acc H' hi => CI.step _ D v r acc H' hi) (h₀ := s.heap) (H₀ := H) hn hL0 ?_ items [] _ S₄ E04 st₄ hI1
    intro acc H' s' hi S' E'
    obtain ⟨m, cm, F, _⟩ := S'.frm
    exact fin D acc H' s' _ m (hfin _ _ _ hi) (S.ext S'.sim E') E' F.ns hL0 F.own F.above
  refine codeAny_compStart_list (loop _ rfl) (IT.self A _ items _ _ _ st₄ (loop _ rfl))

theorem EvalW.comp {elt target iter ifs scope pos} (tup : Bool) (cs : compOk env scope = true) (hd : C.hd = true) (ht : IsTupleE tup target)
    (h : IterE C k env tup iter (fun items cond H₁ => ∃ Inv, CompInv C k env elt target ifs scope ρ Inv ∧ (∀ D, H₁ D = Option.none → Inv D items [] (H₁.set D (.list []))) ∧ (∀ D r acc H, Inv D r acc H → cond H) ∧
      ∀ D acc H', Inv D [] acc H' → ∃ v H'', Fz H' (.ref D) v H'' ∧ Q v H'') R ρ H)
    (hs : ∀ x, foldedSetIterable iter env x = pure x := by intro _; rfl) :
    EvalW C k env (.ListComp elt [⟨target, iter, ifs, 0⟩] scope pos) Q R ρ H := fun A a s S => by
  rw [eval_ListComp]
  refine comp_core a (CompScope.of cs) hd ht _ h S (fun _ _ p => p) (fun D acc H' s' L m hi S' E' hns hL hHL hBL => ?_) hs
  refine ⟨m, hns, fun h' hsb => ?_⟩
  obtain ⟨v, H'', fz, q⟩ := hi
  obtain ⟨oL, eL, nL⟩ := ns_noseq hns
  have S'' : Sim C H' { s' with heap := h' } := S'.sim.touch (s' := { s' with heap := h' }) eL nL hHL hBL (fun a o n e => hsb.extBut a o n e) rfl rfl
  obtain ⟨S3, r3⟩ := fz.2 C { s' with heap := h' } (.ref D) S'' (.ref D)
  have hb : ∀ a o, s.heap.get? a = some o → a ≠ L := fun a o e q => by rw [q, hL] at e; cases e
  exact ⟨v, H'', q, S3, r3, ⟨fun a o e n => hsb.extBut a o (hb a o e) (E'.keep a o e n), fun a o e n => fz.1 a (E'.grow a o e n), fun a o e => let ⟨o', e'⟩ := E'.live a o e; ⟨o', hsb.extBut a o' (hb a o e) e'⟩⟩⟩

variable {QS : Fl → Rho → Hp → Prop} {RS : V → Rho → Hp → Prop}
theorem ExecW.assign_comp {x p' elt target iter ifs scope cpos pos} (tup : Bool) (hk : env.kindOf x = some .local) (cs : compOk env scope = true) (hd : C.hd = true) (ht : IsTupleE tup target)
    (h : IterE C k env tup iter (fun items cond H₁ => ∃ Inv, CompInv C k env elt target ifs scope ρ Inv ∧ (∀ D, H₁ D = Option.none → Inv D items [] (H₁.set D (.list []))) ∧ (∀ D r acc H, Inv D r acc H → cond H) ∧
      ∀ D acc H', Inv D [] acc H' → ∃ v H'', Fz H' (.ref D) v H'' ∧ QS .next (ρ.set x v) H'') (fun v H' => RS v ρ H') ρ H)
    (hsw : swapsWith (.ListComp elt [⟨target, iter, ifs, 0⟩] scope cpos) (some (.Name x p')) pos.line env = pure true := by rfl)
    (hs : ∀ x, foldedSetIterable iter env x = pure x := by intro _; rfl) :
    ExecW C k env (.Assign [.Name x p'] (.ListComp elt [⟨target, iter, ifs, 0⟩] scope cpos) pos) QS RS ρ H := fun A a s S => by
  have e0 : exec (.Assign [.Name x p'] (.ListComp elt [⟨target, iter, ifs, 0⟩] scope cpos) pos) env = (do
      standAt pos
      if ← swapsWith (.ListComp elt [⟨target, iter, ifs, 0⟩] scope cpos) (some (.Name x p')) pos.line env then do
        evalThenUse (.ListComp elt [⟨target, iter, ifs, 0⟩] scope cpos) env fun v => assignAll v ((assignEach [.Name x p'] env).map (·.2))
        pure .next
      else do
        let v ← eval (.ListComp elt [⟨target, iter, ifs, 0⟩] scope cpos) env
        assignStores env v (← swappedStores [.Name x p'] (.ListComp elt [⟨target, iter, ifs, 0⟩] scope cpos) env) ((assignEach [.Name x p'] env).map (·.2))) := rfl
  rw [e0, hsw]
  refine wpAny_bind (wpAny_standAt (wpAny_bind (wpAny_pure ?_)))
  simp only [if_true]
  refine wpAny_bind ?_
  rw [arm_evalThenUse_ListComp]
  refine wpAny_bind ?_
  refine comp_core a (CompScope.of cs) hd ht _ h S (fun _ _ p => p.toX S) (fun D acc H' s' L m hi S' E' hns hL hHL hBL => ?_) hs
  show wpAny C.M A (PySem.assign (.Name x p') env (.ref D)) _ _ s'
  refine wpAny_assign_Name ?_
  obtain ⟨v, H'', fz, q⟩ := hi
  obtain ⟨S3, r3⟩ := fz.2 C s' (.ref D) S'.sim (.ref D)
  have E3 : Ext H' s'.heap H'' s'.heap := ⟨fun _ _ e _ => e, fun a _ _ n => fz.1 a n, fun _ o e => ⟨o, e⟩⟩
  have SL3 := S'.ext S3 E3
  refine store_local hk SL3 r3 fun s₅ S₅ E₅ hk₅ hg₅ => ?_
  have hLne : L ≠ env.locals := fun q => by
    obtain ⟨m2, cm2, F2, _⟩ := S.frm
    obtain ⟨o2, e2, _⟩ := ns_noseq F2.ns
    rw [← q, hL] at e2; cases e2
  obtain ⟨oL, es, ep, eL, dL, rL⟩ := hns
  have hns5 : s₅.heap.Ns L m := ⟨oL, es, ep, hk₅ _ _ hLne eL, dL, rL⟩
  refine ⟨m, hns5, fun h' hsb => wpAny_pure (wpAny_pure ?_)⟩
  obtain ⟨m5, cm5, F5, r5⟩ := S₅.frm
  obtain ⟨oL5, eL5, nL5⟩ := ns_noseq hns5
  have hHL' : H'' L = Option.none := fz.1 L hHL
  have hkeep : ∀ a o, a ≠ L → s₅.heap.get? a = some o → h'.get? a = some o := fun a o n e => hsb.extBut a o n e
  have S6 : Sim C H'' { s₅ with heap := h' } := S₅.sim.touch (s' := { s₅ with heap := h' }) eL5 nL5 hHL' hBL hkeep rfl rfl
  have hcellne : ∀ n c, env.cells.lookup n = some c → c ≠ L := fun n c e q => by
    obtain ⟨m2, cm2, F2, _⟩ := S.frm
    obtain ⟨o2, e2, _⟩ := cell_noseq (F2.cell n c e)
    rw [q, hL] at e2; cases e2
  have SL6 : SimL C env (ρ.set x v) H'' { s₅ with heap := h' } := by
    refine ⟨S6, S.kind, S.globals, S.builtins, m5, cm5, ⟨?_, fun n c e => ?_, F5.own, F5.ownc, F5.above, F5.abovec, F5.apart⟩, fun y w e => (r5 y w e).extV (ExtV.but eL5 nL5 hkeep)⟩
    · exact F5.ns.sameBut hsb (Ne.symm hLne)
    · exact (F5.cell n c e).sameBut hsb (hcellne n c e)
  have hb : ∀ a o, s.heap.get? a = some o → a ≠ L := fun a o e q => by rw [q, hL] at e; cases e
  have EF : ExtF env H s.heap H'' s₅.heap := (E'.trans E3).toF.trans E₅
  refine ⟨.next, ρ.set x v, H'', q, trivial, SL6, ⟨fun a o e n n1 n2 => hkeep a o (hb a o e) (EF.keep a o e n n1 n2), EF.grow, fun a o e => let ⟨o', e'⟩ := EF.live a o e; ⟨o', hkeep a o' (hb a o e) e'⟩⟩⟩

end Mine

set_option Elab.async false
set_option linter.unusedVariables false
namespace Mine
open PySem PyProof.Rows

variable {C : Cx} {k : Nat} {env : Env} {ρ : Rho} {H : Hp} {Q R : V → Hp → Prop} {QB : Bool → Hp → Prop}

/- ints -/
theorem BinW.add {i j : Int} (h : Q (.int (i + j)) H) : BinW C k .Add (.int i) (.int j) Q R H := fun A a s x y S r1 r2 => by
  cases r1; cases r2; exact add_int (Post.here h (S.toks _) (.int _ _) rfl)
theorem BinW.sub {i j : Int} (h : Q (.int (i - j)) H) : BinW C k .Sub (.int i) (.int j) Q R H := fun A a s x y S r1 r2 => by
  cases r1; cases r2; exact sub_int (Post.here h (S.toks _) (.int _ _) rfl)
theorem BinW.mul {i j : Int} (hb : IntMulOk i j) (h : Q (.int (i * j)) H) : BinW C k .Mult (.int i) (.int j) Q R H := fun A a s x y S r1 r2 => by
  cases r1; cases r2; exact mul_int (Post.here h (S.toks _) (.int _ _) rfl) hb
theorem BinW.mod {i j : Int} (hb : 0 < j) (h : Q (.int (i % j)) H) : BinW C k .Mod (.int i) (.int j) Q R H := fun A a s x y S r1 r2 => by
  cases r1; cases r2
  refine mod_int' (by omega) (Post.here (v := .int (i % j)) h (S.toks _) ?_ rfl)
  rw [Int.fmod_eq_emod_of_nonneg _ (by omega)]; exact .int _ _
theorem BinW.floordiv {i j : Int} (hb : 0 < j) (hs : j < 1073741824) (h : Q (.int (i / j)) H) : BinW C k .FloorDiv (.int i) (.int j) Q R H := fun A a s x y S r1 r2 => by
  cases r1; cases r2
  refine floordiv_int (by omega) (Post.here (v := .int (i / j)) h (S.toks _) ?_ rfl) (Or.inl (PyProof.noPylong_small (by omega)))
  rw [Int.fdiv_eq_ediv_of_nonneg _ (by omega)]; exact .int _ _
theorem EvalW.neg {e p} (h : EvalW C k env e (fun v H' => ∃ i, v = .int i ∧ Q (.int (-i)) H') R ρ H) : EvalW C k env (.UnaryOp .USub e p) Q R ρ H := fun A a s S => by
  refine UnaryOp_ (wp_go (h A a s S) fun x v H₁ s₁ h₁ S₁ r₁ E₁ => ?_)
  obtain ⟨i, rfl, q⟩ := h₁
  cases r₁
  exact neg_int ⟨_, _, q, S₁.toks _, .int _ _, E₁⟩

theorem CmpW.lt {i j : Int} (h : Q (.bool (decide (i < j))) H) : CmpW C k .Lt (.int i) (.int j) Q R H := fun A a s x y S r1 r2 => by
  cases r1; cases r2; exact lt_int (Post.here h S (.bool _) rfl)
theorem CmpW.le {i j : Int} (h : Q (.bool (decide (i ≤ j))) H) : CmpW C k .LtE (.int i) (.int j) Q R H := fun A a s x y S r1 r2 => by
  cases r1; cases r2; exact le_int (Post.here h S (.bool _) rfl)
theorem CmpW.gt {i j : Int} (h : Q (.bool (decide (j < i))) H) : CmpW C k .Gt (.int i) (.int j) Q R H := fun A a s x y S r1 r2 => by
  cases r1; cases r2; exact gt_int (Post.here h S (.bool _) rfl)
theorem CmpW.ge {i j : Int} (h : Q (.bool (decide (j ≤ i))) H) : CmpW C k .GtE (.int i) (.int j) Q R H := fun A a s x y S r1 r2 => by
  cases r1; cases r2; exact ge_int (Post.here h S (.bool _) rfl)
theorem CmpW.eqI {i j : Int} (h : Q (.bool (i == j)) H) : CmpW C k .Eq (.int i) (.int j) Q R H := fun A a s x y S r1 r2 => by
  cases r1; cases r2; exact eq_int (Post.here h S (.bool _) rfl)
theorem CmpW.neI {i j : Int} (h : Q (.bool (i != j)) H) : CmpW C k .NotEq (.int i) (.int j) Q R H := fun A a s x y S r1 r2 => by
  cases r1; cases r2; exact ne_int (Post.here h S (.bool _) rfl)
theorem CmpW.eqS {i j : Str} (h : Q (.bool (i == j)) H) : CmpW C k .Eq (.str i) (.str j) Q R H := fun A a s x y S r1 r2 => by
  cases r1; cases r2; exact eq_str (Post.here h S (.bool _) rfl)
theorem CmpW.neS {i j : Str} (h : Q (.bool (i != j)) H) : CmpW C k .NotEq (.str i) (.str j) Q R H := fun A a s x y S r1 r2 => by
  cases r1; cases r2; exact ne_str (Post.here h S (.bool _) rfl)

def V.isNone : V → Bool
  | .none => true
  | _ => false
def V.notCon : V → Prop
  | .con _ => False
  | _ => True
theorem CmpW.isNone {v : V} (hv : v.notCon) (h : Q (.bool v.isNone) H) : CmpW C k .Is v .none Q R H := fun A a s x y S r1 r2 => by
  cases r2
  refine is_none_gen (Post.here (v := .bool v.isNone) h S ?_ rfl)
  cases r1 <;> first | exact .bool _ | exact hv.elim
theorem CmpW.isNotNone {v : V} (hv : v.notCon) (h : Q (.bool (!v.isNone)) H) : CmpW C k .IsNot v .none Q R H := fun A a s x y S r1 r2 => by
  cases r2
  refine isnot_none_gen (Post.here (v := .bool (!v.isNone)) h S ?_ rfl)
  cases r1 <;> first | exact .bool _ | exact hv.elim

theorem TruthW.bool {b : Bool} (h : QB b H) : TruthW C k (.bool b) QB R H := fun A a s x S r => by
  cases r; exact wpAny_truthy_bool (Post.here h S rfl rfl)
theorem TruthW.list {v : V} {l : List V} (hl : lview H v = some l) (hn : l.length ≤ 100000) (h : QB (!l.isEmpty) H) : TruthW C k v QB R H := fun A a s x S r => by
  obtain ⟨ad, xs, rfl, hL, rl⟩ := lview_list hl S r
  have hz : xs.size = l.length := by have := rl.length; simpa using this
  refine wpAny_truthy_list hL (by omega) (Post.here (v := !l.isEmpty) h (S.toks _) ?_ rfl)
  show (!l.isEmpty) = !xs.isEmpty
  cases l <;> cases xs with | mk ys => cases ys <;> simp_all

/- len -/
theorem CallW.len {v : V} {l : List V} (hl : lview H v = some l) (hn : l.length ≤ 100000) (h : Q (.int l.length) H) : CallW C k (.builtin "len") [v] Q R H := fun A a s xs S r => by
  cases r with
  | cons r r' =>
    cases r'
    obtain ⟨ad, ys, rfl, hL, rl⟩ := lview_list hl S r
    have hz : ys.size = l.length := by have := rl.length; simpa using this
    refine len_list hL (by omega) (Post.here h (S.toks _) ?_ rfl)
    rw [hz]; exact .int _ _
theorem CallW.lenT {l : List V} (hn : l.length ≤ 100000) (h : Q (.int l.length) H) : CallW C k (.builtin "len") [.tup l] Q R H := fun A a s xs S r => by
  cases r with
  | cons r r' =>
    cases r'
    cases r with
    | @tup ad _ ys ha ho rl =>
      have hz : ys.size = l.length := by have := rl.length; simpa using this
      refine len_tuple ha (by omega) (Post.here h (S.toks _) ?_ rfl)
      rw [hz]; exact .int _ _

/- subscripts -/
def SubW (C : Cx) (k : Nat) (value slice : Expr) (v i : V) (Q R : V → Hp → Prop) (H : Hp) : Prop :=
  ∀ A, Lv C k A → ∀ s x y, Sim C H s → VRel s.heap H v x → VRel s.heap H i y → wpAny C.M A (subscriptTail value slice x y) (Post C H s.heap VRel Q) (Post C H s.heap VRel R) s
theorem EvalW.sub {value slice p} (h : EvalW C k env value (fun v H₁ => EvalW C k env slice (fun i H₂ => SubW C k value slice v i Q R H₂) R ρ H₁) R ρ H) : EvalW C k env (.Subscript value slice p) Q R ρ H := fun A a s S =>
  Subscript_ (wp_go (h A a s S) fun x v H₁ s₁ h₁ S₁ r₁ E₁ => wp_go (h₁ A a s₁ (S.ext S₁ E₁)) (fun y w H₂ s₂ h₂ S₂ r₂ E₂ => wp_fin (E₁.trans E₂) (h₂ A a s₂ x y S₂ (r₁.ext E₂) r₂)) fun _ _ p => p.after E₁)
theorem SubW.list {value slice} {v u : V} {l : List V} {i : Int} (hl : lview H v = some l) (h0 : 0 ≤ i) (hi : i < 2 ^ 63) (hx : l[i.toNat]? = some u) (h : Q u H)
    (hs : ∀ o i, subscripted slice false o i = operate [o, i] (getItem o i) := by intros; rfl) : SubW C k value slice v (.int i) Q R H := fun A a s x y S r1 r2 => by
  obtain ⟨ad, xs, rfl, hL, rl⟩ := lview_list hl S r1
  cases r2
  obtain ⟨z, ez, rz⟩ := rl.get hx
  exact tail_any hL.typeIs slot_list_getitem.lookup (wpAny_getItem_list hL h0 hi (by simpa using ez) (Post.here h S rz rfl)) (hs _ _)
theorem SubW.tup {value slice} {u : V} {l : List V} {i : Int} (h0 : 0 ≤ i) (hi : i < 2 ^ 63) (hx : l[i.toNat]? = some u) (h : Q u H)
    (hs : ∀ o i, subscripted slice false o i = operate [o, i] (getItem o i) := by intros; rfl) : SubW C k value slice (.tup l) (.int i) Q R H := fun A a s x y S r1 r2 => by
  cases r1 with
  | @tup ad _ xs ha ho rl =>
    cases r2
    obtain ⟨z, ez, rz⟩ := rl.get hx
    have hz : i.toNat < xs.size := by have := (List.getElem?_eq_some_iff.mp ez).1; simpa using this
    refine tail_any (T := "tuple") (Heap.IsTuple.typeIs ha) slot_tuple_getitem.lookup (getItem_tuple (j := i.toNat) ha (by omega) hi ?_ (by simpa using ez) (Post.here h S rz rfl)) (hs _ _)
    unfold seqIndex?
    have : ¬ i < 0 := by omega
    simp [this, hz]; omega

/- isinstance -/
def tyOf (H : Hp) : V → Option String
  | .none => some "NoneType"
  | .bool _ => some "bool"
  | .int _ => some "int"
  | .str _ => some "str"
  | .tup _ => some "tuple"
  | .lst _ => some "list"
  | .ref a => match H a with
    | some (.list _) => some "list"
    | some (.dictI ..) => some "dict"
    | some (.dictS ..) => some "dict"
    | _ => Option.none
  | .con _ => Option.none
def isSub (T U : String) : Bool := T == U || (T == "bool" && U == "int")
theorem CallW.isi_int {v : V} {T : String} (hT : tyOf H v = some T) (h : Q (.bool (isSub T "int")) H) : CallW C k (.builtin "isinstance") [v, .con (.type "int")] Q R H := fun A a s xs S r => by
  cases r with
  | cons r r1 =>
    cases r1 with
    | cons r1 r2 =>
      cases r2; cases r1
      cases r with
      | none => exact IsiPair.NoneType_int (Post.here (v := .bool false) (by cases hT; exact h) (S.toks _) (.bool _) rfl)
      | bool b => exact IsiPair.bool_int (Post.here (v := .bool true) (by cases hT; exact h) S (.bool _) rfl)
      | int i t => exact IsiPair.int_int (Post.here (v := .bool true) (by cases hT; exact h) S (.bool _) rfl)
      | str x t => exact IsiPair.str_int (Post.here (v := .bool false) (by cases hT; exact h) (S.toks _) (.bool _) rfl)
      | tup ha ho hl => obtain ⟨o, e, c, _⟩ := ha; exact IsiPair.tuple_int e c (Post.here (v := .bool false) (by cases hT; exact h) (S.toks _) (.bool _) rfl)
      | lst ha ho hl => obtain ⟨o, e, c, _⟩ := ha; exact IsiPair.list_int e c (Post.here (v := .bool false) (by cases hT; exact h) (S.toks _) (.bool _) rfl)
      | ref ad =>
        simp only [tyOf] at hT
        split at hT
        · rename_i l e
          obtain ⟨ys, hpl, _⟩ := S.objs _ _ e
          obtain ⟨o, e', c, _⟩ := hpl.isList
          exact IsiPair.list_int e' c (Post.here (v := .bool false) (by cases hT; exact h) (S.toks _) (.bool _) rfl)
        · rename_i m n e
          obtain ⟨f, ⟨o, es, ep, e', hx, _⟩, _⟩ := S.objs _ _ e
          exact IsiPair.dict_int e' hx.1 (Post.here (v := .bool false) (by cases hT; exact h) (S.toks _) (.bool _) rfl)
        · rename_i m n e
          obtain ⟨f, ⟨o, es, ep, e', hx, _⟩, _⟩ := S.objs _ _ e
          exact IsiPair.dict_int e' hx.1 (Post.here (v := .bool false) (by cases hT; exact h) (S.toks _) (.bool _) rfl)
        · cases hT
      | con v => cases hT
theorem CallW.isi_bool {v : V} {T : String} (hT : tyOf H v = some T) (h : Q (.bool (isSub T "bool")) H) : CallW C k (.builtin "isinstance") [v, .con (.type "bool")] Q R H := fun A a s xs S r => by
  cases r with
  | cons r r1 =>
    cases r1 with
    | cons r1 r2 =>
      cases r2; cases r1
      cases r with
      | none => exact IsiPair.NoneType_bool (Post.here (v := .bool false) (by cases hT; exact h) (S.toks _) (.bool _) rfl)
      | bool b => exact IsiPair.bool_bool (Post.here (v := .bool true) (by cases hT; exact h) S (.bool _) rfl)
      | int i t => exact IsiPair.int_bool (Post.here (v := .bool false) (by cases hT; exact h) (S.toks _) (.bool _) rfl)
      | str x t => exact IsiPair.str_bool (Post.here (v := .bool false) (by cases hT; exact h) (S.toks _) (.bool _) rfl)
      | tup ha ho hl => obtain ⟨o, e, c, _⟩ := ha; exact IsiPair.tuple_bool e c (Post.here (v := .bool false) (by cases hT; exact h) (S.toks _) (.bool _) rfl)
      | lst ha ho hl => obtain ⟨o, e, c, _⟩ := ha; exact IsiPair.list_bool e c (Post.here (v := .bool false) (by cases hT; exact h) (S.toks _) (.bool _) rfl)
      | ref ad =>
        simp only [tyOf] at hT
        split at hT
        · rename_i l e
          obtain ⟨ys, hpl, _⟩ := S.objs _ _ e
          obtain ⟨o, e', c, _⟩ := hpl.isList
          exact IsiPair.list_bool e' c (Post.here (v := .bool false) (by cases hT; exact h) (S.toks _) (.bool _) rfl)
        · rename_i m n e
          obtain ⟨f, ⟨o, es, ep, e', hx, _⟩, _⟩ := S.objs _ _ e
          exact IsiPair.dict_bool e' hx.1 (Post.here (v := .bool false) (by cases hT; exact h) (S.toks _) (.bool _) rfl)
        · rename_i m n e
          obtain ⟨f, ⟨o, es, ep, e', hx, _⟩, _⟩ := S.objs _ _ e
          exact IsiPair.dict_bool e' hx.1 (Post.here (v := .bool false) (by cases hT; exact h) (S.toks _) (.bool _) rfl)
        · cases hT
      | con v => cases hT
theorem CallW.isi_str {v : V} {T : String} (hT : tyOf H v = some T) (h : Q (.bool (isSub T "str")) H) : CallW C k (.builtin "isinstance") [v, .con (.type "str")] Q R H := fun A a s xs S r => by
  cases r with
  | cons r r1 =>
    cases r1 with
    | cons r1 r2 =>
      cases r2; cases r1
      cases r with
      | none => exact IsiPair.NoneType_str (Post.here (v := .bool false) (by cases hT; exact h) (S.toks _) (.bool _) rfl)
      | bool b => exact IsiPair.bool_str (Post.here (v := .bool false) (by cases hT; exact h) (S.toks _) (.bool _) rfl)
      | int i t => exact IsiPair.int_str (Post.here (v := .bool false) (by cases hT; exact h) (S.toks _) (.bool _) rfl)
      | str x t => exact IsiPair.str_str (Post.here (v := .bool true) (by cases hT; exact h) S (.bool _) rfl)
      | tup ha ho hl => obtain ⟨o, e, c, _⟩ := ha; exact IsiPair.tuple_str e c (Post.here (v := .bool false) (by cases hT; exact h) (S.toks _) (.bool _) rfl)
      | lst ha ho hl => obtain ⟨o, e, c, _⟩ := ha; exact IsiPair.list_str e c (Post.here (v := .bool false) (by cases hT; exact h) (S.toks _) (.bool _) rfl)
      | ref ad =>
        simp only [tyOf] at hT
        split at hT
        · rename_i l e
          obtain ⟨ys, hpl, _⟩ := S.objs _ _ e
          obtain ⟨o, e', c, _⟩ := hpl.isList
          exact IsiPair.list_str e' c (Post.here (v := .bool false) (by cases hT; exact h) (S.toks _) (.bool _) rfl)
        · rename_i m n e
          obtain ⟨f, ⟨o, es, ep, e', hx, _⟩, _⟩ := S.objs _ _ e
          exact IsiPair.dict_str e' hx.1 (Post.here (v := .bool false) (by cases hT; exact h) (S.toks _) (.bool _) rfl)
        · rename_i m n e
          obtain ⟨f, ⟨o, es, ep, e', hx, _⟩, _⟩ := S.objs _ _ e
          exact IsiPair.dict_str e' hx.1 (Post.here (v := .bool false) (by cases hT; exact h) (S.toks _) (.bool _) rfl)
        · cases hT
      | con v => cases hT
theorem CallW.isi_list {v : V} {T : String} (hT : tyOf H v = some T) (h : Q (.bool (isSub T "list")) H) : CallW C k (.builtin "isinstance") [v, .con (.type "list")] Q R H := fun A a s xs S r => by
  cases r with
  | cons r r1 =>
    cases r1 with
    | cons r1 r2 =>
      cases r2; cases r1
      cases r with
      | none => exact IsiPair.NoneType_list (Post.here (v := .bool false) (by cases hT; exact h) (S.toks _) (.bool _) rfl)
      | bool b => exact IsiPair.bool_list (Post.here (v := .bool false) (by cases hT; exact h) (S.toks _) (.bool _) rfl)
      | int i t => exact IsiPair.int_list (Post.here (v := .bool false) (by cases hT; exact h) (S.toks _) (.bool _) rfl)
      | str x t => exact IsiPair.str_list (Post.here (v := .bool false) (by cases hT; exact h) (S.toks _) (.bool _) rfl)
      | tup ha ho hl => obtain ⟨o, e, c, _⟩ := ha; exact IsiPair.tuple_list e c (Post.here (v := .bool false) (by cases hT; exact h) (S.toks _) (.bool _) rfl)
      | lst ha ho hl => obtain ⟨o, e, c, _⟩ := ha; exact IsiPair.list_list e c (Post.here (v := .bool true) (by cases hT; exact h) S (.bool _) rfl)
      | ref ad =>
        simp only [tyOf] at hT
        split at hT
        · rename_i l e
          obtain ⟨ys, hpl, _⟩ := S.objs _ _ e
          obtain ⟨o, e', c, _⟩ := hpl.isList
          exact IsiPair.list_list e' c (Post.here (v := .bool true) (by cases hT; exact h) S (.bool _) rfl)
        · rename_i m n e
          obtain ⟨f, ⟨o, es, ep, e', hx, _⟩, _⟩ := S.objs _ _ e
          exact IsiPair.dict_list e' hx.1 (Post.here (v := .bool false) (by cases hT; exact h) (S.toks _) (.bool _) rfl)
        · rename_i m n e
          obtain ⟨f, ⟨o, es, ep, e', hx, _⟩, _⟩ := S.objs _ _ e
          exact IsiPair.dict_list e' hx.1 (Post.here (v := .bool false) (by cases hT; exact h) (S.toks _) (.bool _) rfl)
        · cases hT
      | con v => cases hT
theorem CallW.isi_tuple {v : V} {T : String} (hT : tyOf H v = some T) (h : Q (.bool (isSub T "tuple")) H) : CallW C k (.builtin "isinstance") [v, .con (.type "tuple")] Q R H := fun A a s xs S r => by
  cases r with
  | cons r r1 =>
    cases r1 with
    | cons r1 r2 =>
      cases r2; cases r1
      cases r with
      | none => exact IsiPair.NoneType_tuple (Post.here (v := .bool false) (by cases hT; exact h) (S.toks _) (.bool _) rfl)
      | bool b => exact IsiPair.bool_tuple (Post.here (v := .bool false) (by cases hT; exact h) (S.toks _) (.bool _) rfl)
      | int i t => exact IsiPair.int_tuple (Post.here (v := .bool false) (by cases hT; exact h) (S.toks _) (.bool _) rfl)
      | str x t => exact IsiPair.str_tuple (Post.here (v := .bool false) (by cases hT; exact h) (S.toks _) (.bool _) rfl)
      | tup ha ho hl => obtain ⟨o, e, c, _⟩ := ha; exact IsiPair.tuple_tuple e c (Post.here (v := .bool true) (by cases hT; exact h) S (.bool _) rfl)
      | lst ha ho hl => obtain ⟨o, e, c, _⟩ := ha; exact IsiPair.list_tuple e c (Post.here (v := .bool false) (by cases hT; exact h) (S.toks _) (.bool _) rfl)
      | ref ad =>
        simp only [tyOf] at hT
        split at hT
        · rename_i l e
          obtain ⟨ys, hpl, _⟩ := S.objs _ _ e
          obtain ⟨o, e', c, _⟩ := hpl.isList
          exact IsiPair.list_tuple e' c (Post.here (v := .bool false) (by cases hT; exact h) (S.toks _) (.bool _) rfl)
        · rename_i m n e
          obtain ⟨f, ⟨o, es, ep, e', hx, _⟩, _⟩ := S.objs _ _ e
          exact IsiPair.dict_tuple e' hx.1 (Post.here (v := .bool false) (by cases hT; exact h) (S.toks _) (.bool _) rfl)
        · rename_i m n e
          obtain ⟨f, ⟨o, es, ep, e', hx, _⟩, _⟩ := S.objs _ _ e
          exact IsiPair.dict_tuple e' hx.1 (Post.here (v := .bool false) (by cases hT; exact h) (S.toks _) (.bool _) rfl)
        · cases hT
      | con v => cases hT

end Mine

set_option Elab.async false
set_option linter.unusedVariables false
namespace Mine
open PySem PyProof.Rows

variable {C : Cx} {k : Nat} {env : Env} {ρ : Rho} {H : Hp} {Q R : V → Hp → Prop} {QB : Bool → Hp → Prop}

mutual
def V.dat : V → PyData
  | .none => .none
  | .bool b => .bool b
  | .int i => .int i
  | .str s => .str s
  | .tup l => .tuple (datL l)
  | .lst l => .list (datL l)
  | .ref _ => .none
  | .con _ => .none
def datL : List V → List PyData
  | [] => []
  | v :: r => v.dat :: datL r
end
mutual
def V.pure : V → Bool
  | .none => true
  | .bool _ => true
  | .int _ => true
  | .str _ => true
  | .tup l => pureL l
  | .lst l => pureL l
  | .ref _ => false
  | .con _ => false
def pureL : List V → Bool
  | [] => true
  | v :: r => v.pure && pureL r
end
mutual
theorem VRel.reads {h : Heap} {H : Hp} : ∀ {v : V} {x : Value}, VRel h H v x → v.pure = true → ∃ as, Reads h x v.dat as
  | _, _, .none, _ => ⟨_, .none⟩
  | _, _, .bool b, _ => ⟨_, .bool b⟩
  | _, _, .int i t, _ => ⟨_, .int i t⟩
  | _, _, .str s t, _ => ⟨_, .str s t⟩
  | _, _, .tup ha ho hl, hp => by
    obtain ⟨o, e, c, n, d⟩ := ha
    obtain ⟨as, r⟩ := VRelL.reads hl (by simpa only [V.pure] using hp)
    exact ⟨as, by simpa only [V.dat] using .tuple e c d r⟩
  | _, _, .lst ha ho hl, hp => by
    obtain ⟨o, e, c, n, d⟩ := ha
    obtain ⟨as, r⟩ := VRelL.reads hl (by simpa only [V.pure] using hp)
    exact ⟨_, by simpa only [V.dat] using .list e c d r⟩
  | _, _, .ref _, hp => by simp [V.pure] at hp
  | _, _, .con _, hp => by simp [V.pure] at hp
theorem VRelL.reads {h : Heap} {H : Hp} : ∀ {v : List V} {x : List Value}, VRelL h H v x → pureL v = true → ∃ as, ReadsAll h x (datL v) as
  | _, _, .nil, _ => ⟨_, by simpa only [datL] using .nil⟩
  | _, _, .cons hv hl, hp => by
    simp only [pureL, Bool.and_eq_true] at hp
    obtain ⟨as, r⟩ := VRel.reads hv hp.1
    obtain ⟨bs, r'⟩ := VRelL.reads hl hp.2
    exact ⟨_, by simpa only [datL] using .cons r r'⟩
end
/-- an owned list, seen as it is now -/
def see (H : Hp) : V → V
  | .ref a => match H a with
    | some (.list l) => .lst l
    | _ => .ref a
  | v => v
theorem see_reads {s : Shared} {v : V} {x : Value} (S : Sim C H s) (r : VRel s.heap H v x) (hp : (see H v).pure = true) : ∃ as, Reads s.heap x (see H v).dat as := by
  cases r with
  | ref a =>
    simp only [see] at hp ⊢
    split at hp
    · rename_i l e
      obtain ⟨xs, hpl, rl⟩ := S.objs _ _ e
      obtain ⟨o, e', c, n, d⟩ := hpl.isList
      obtain ⟨as, r⟩ := VRelL.reads rl (by simpa only [V.pure] using hp)
      exact ⟨_, by simpa only [V.dat] using .list e' c d r⟩
    · simp [V.pure] at hp
  | none => exact VRel.reads (H := H) .none hp
  | bool b => exact VRel.reads (H := H) (.bool b) hp
  | int i t => exact VRel.reads (H := H) (.int i t) hp
  | str i t => exact VRel.reads (H := H) (.str i t) hp
  | tup ha ho hl => exact VRel.reads (.tup ha ho hl) hp
  | lst ha ho hl => exact VRel.reads (.lst ha ho hl) hp
  | con v => simp [see, V.pure] at hp

def okD (d : PyData) : Bool := SeqAt.shaped d
theorem CmpW.eq {v w : V} (hv : (see H v).pure = true) (hw : (see H w).pure = true) (sv : okD (see H v).dat = true) (sw : okD (see H w).dat = true) (h : Q (.bool (PyData.eqv (see H v).dat (see H w).dat)) H) : CmpW C k .Eq v w Q R H := fun A a s x y S r1 r2 => by
  obtain ⟨as, ra⟩ := see_reads S r1 hv
  obtain ⟨bs, rb⟩ := see_reads S r2 hw
  exact eq_dataH ra rb sv sw (by have := a.units; omega) (Post.here h S (.bool _) rfl)
theorem CmpW.ne {v w : V} (hv : (see H v).pure = true) (hw : (see H w).pure = true) (sv : okD (see H v).dat = true) (sw : okD (see H w).dat = true) (h : Q (.bool (!PyData.eqv (see H v).dat (see H w).dat)) H) : CmpW C k .NotEq v w Q R H := fun A a s x y S r1 r2 => by
  obtain ⟨as, ra⟩ := see_reads S r1 hv
  obtain ⟨bs, rb⟩ := see_reads S r2 hw
  exact ne_dataH ra rb sv sw (by have := a.units; omega) (Post.here h S (.bool _) rfl)

/- in: a list or tuple -/
theorem CmpW.inList {v w : V} {l : List V} (hw : lview H w = some l) (pl : pureL l = true) (hv : (see H v).pure = true) (sl : okD (.list (datL l)) = true) (sv : okD (see H v).dat = true) (hm : ∀ y ∈ datL l, SeqAt.noMix y (see H v).dat = true)
    (h : Q (.bool (decide (PySem.Spec.countIn (see H v).dat (datL l) ≠ 0))) H) : CmpW C k .In v w Q R H := fun A a s x y S r1 r2 => by
  obtain ⟨as, ra⟩ := see_reads S r1 hv
  obtain ⟨ad, xs, rfl, ⟨o, e, c, n, d⟩, rl⟩ := lview_list hw S r2
  obtain ⟨bs, rb⟩ := VRelL.reads rl pl
  exact in_list_dataH (.list e c d rb) ra sl sv (by have := a.units; omega) hm (Post.here h S (.bool _) rfl)
theorem CmpW.notInList {v w : V} {l : List V} (hw : lview H w = some l) (pl : pureL l = true) (hv : (see H v).pure = true) (sl : okD (.list (datL l)) = true) (sv : okD (see H v).dat = true) (hm : ∀ y ∈ datL l, SeqAt.noMix y (see H v).dat = true)
    (h : Q (.bool (!decide (PySem.Spec.countIn (see H v).dat (datL l) ≠ 0))) H) : CmpW C k .NotIn v w Q R H := fun A a s x y S r1 r2 => by
  obtain ⟨as, ra⟩ := see_reads S r1 hv
  obtain ⟨ad, xs, rfl, ⟨o, e, c, n, d⟩, rl⟩ := lview_list hw S r2
  obtain ⟨bs, rb⟩ := VRelL.reads rl pl
  exact notIn_list_dataH (.list e c d rb) ra sl sv (by have := a.units; omega) hm (Post.here h S (.bool _) rfl)

/- dicts with int keys -/
theorem Sim.noSys {s : Shared} (S : Sim C H s) {a : Addr} {o : O} (ha : H a = some o) : (a == sysModules) = false := by
  have := (S.new a (by rw [ha]; simp)).2
  simpa using this
theorem CmpW.inI {a : Addr} {m : Int → Option V} {n : Nat} {i : Int} (ha : H a = some (.dictI m n)) (h : Q (.bool (m i).isSome) H) : CmpW C k .In (.int i) (.ref a) Q R H := fun A lv s x y S r1 r2 => by
  cases r1; cases r2
  obtain ⟨f, hm, hle, hr⟩ := S.objs _ _ ha
  refine wpAny_in_of (intKind_is _ _ _ _) (S.noSys ha) hm.mapOf (Post.here (v := .bool (m i).isSome) h (S.toks _) ?_ rfl)
  have := hr i
  cases e1 : m i <;> cases e2 : valueAt f i <;> rw [e1, e2] at this <;> first | exact this.elim | exact .bool _

end Mine

set_option Elab.async false
set_option linter.unusedVariables false
namespace Mine
open PySem PySem.W PyProof.Rows

variable {C : Cx} {k : Nat} {K : Frag}

/-- a def of the text, as the written part of the heap has it -/
theorem FnOK.ofK {a : Addr} {name qual : Str} {params : Arguments} {body : List Stmt} {scope : Scope} {dV kV doc pm cdv ct oc : Value} {an od : Option Addr} {osl : Array (Option Value)} {S : SpecT} (names : List Str)
    (X : K.In C.base) (lim : C.base.NoLimit) (ho : K.lookup a = some ⟨oc, od, .func (fnOf name qual params body scope dV kV doc pm an cdv ct), osl⟩) (hcd : codeIn K cdv qual = true)
    (hbind : ∀ vals : List Value, vals.length = names.length → bindArgs (fnOf name qual params body scope dV kV doc pm an cdv ct) ⟨vals, []⟩ = pure (names.zip vals))
    (hk : (names.all fun n => scope.names.lookup n == some .local || scope.names.lookup n == some .cell) = true) (hfl : (!scope.isCoroutine && !scope.isGenerator && scope.kind == .function) = true)
    (h : ∀ args Q R H, S args Q R H → args.length = names.length ∧ ∀ L, ExecsW C k (envOfC qual scope L a cdv) body (RetQ Q) (fun _ _ _ => False) (bindRho (fun _ => none) names args) H) :
    FnOK C (k + 1) (.ref a) S := by
  simp only [Bool.and_eq_true, Bool.not_eq_true', beq_iff_eq] at hfl
  have D : FnDef C a (fnOf name qual params body scope dV kV doc pm an cdv ct) names body :=
    ⟨⟨_, X _ _ ho, rfl⟩, lim, codeRec_of X hcd, rfl, rfl, rfl, rfl, hfl.1.1, hfl.1.2, hfl.2, hbind, fun n hn => by
      have := List.all_eq_true.mp hk n hn
      simpa using this⟩
  exact FnOK.of_def D h
theorem Plainly.ofK {a : Addr} {name qual : Str} {params : Arguments} {body : List Stmt} {scope : Scope} {dV kV doc pm cdv ct oc : Value} {an od : Option Addr} {osl : Array (Option Value)}
    (X : K.In C.base) (ho : K.lookup a = some ⟨oc, od, .func (fnOf name qual params body scope dV kV doc pm an cdv ct), osl⟩) : Plainly C (.ref a) := Plainly.fn (X _ _ ho) rfl
end Mine

set_option Elab.async false
set_option linter.unusedVariables false
namespace Mine
open PySem PySem.W PyProof.Rows

structure PCx (C : Cx) (K : Frag) : Prop where
  X : K.In C.base
  lim : C.base.NoLimit
  ns : ∃ mg mb, C.base.Ns mainGlobals mg ∧ C.base.Ns builtinsNs mb ∧ ∀ x : Str, x ≠ "__name__" → mb x = bootBuiltins x
  hd : C.hd = true
variable {C : Cx} {K : Frag}
theorem PCx.glob (P : PCx C K) {x : Str} {v : Value} (e : nsIn K mainGlobals x = some (some v)) : GlobalV C x (.con v) :=
  let ⟨mg, mb, g, b, h⟩ := P.ns; ⟨v, .inl ⟨mg, g, mg_of P.X g e⟩, fun _ _ => .con v⟩
theorem PCx.globInt (P : PCx C K) {x : Str} {i : Int} {t : Tok} (e : nsIn K mainGlobals x = some (some (.int i t))) : GlobalV C x (.int i) :=
  let ⟨mg, mb, g, b, h⟩ := P.ns; ⟨_, .inl ⟨mg, g, mg_of P.X g e⟩, fun _ _ => .int i t⟩
theorem PCx.blt (P : PCx C K) {x : Str} {v : Value} (e : nsIn K mainGlobals x = some none) (hv : bootBuiltins x = some v) (hn : x ≠ "__name__" := by decide) : GlobalV C x (.con v) :=
  let ⟨mg, mb, g, b, h⟩ := P.ns; ⟨v, .inr ⟨mg, mb, g, mg_none_of P.X g e, b, (h x hn).trans hv⟩, fun _ _ => .con v⟩
end Mine

set_option Elab.async false
set_option linter.unusedVariables false
namespace Mine
open PySem PySem.W PyProof.Rows

variable {C : Cx} {k : Nat} {env : Env} {ρ : Rho} {H : Hp} {Q R : V → Hp → Prop} {QB : Bool → Hp → Prop} {QS : Fl → Rho → Hp → Prop} {RS : V → Rho → Hp → Prop}

theorem ExecW.expr {e p} (h : EvalW C k env e (fun _ H' => QS .next ρ H') (fun v H' => RS v ρ H') ρ H) (hi : interactive env = false := by rfl) (hs : swapsWith e Option.none p.line env = pure false := by rfl) :
    ExecW C k env (.Expr e p) QS RS ρ H := fun A a s S =>
  wpAny_Expr_any (wpAny_mono (h A a s S) (fun x s' ⟨v, H', q, S', r, E⟩ => ⟨.next, ρ, H', q, trivial, S.ext S' E, E.toF⟩) fun _ _ p => p.toX S) hi hs

/- chains of two comparisons -/
theorem EvalW.compare2 {l o₁ o₂ r₁ r₂ p} (h : EvalW C k env l (fun v H₁ => EvalW C k env r₁ (fun w H₂ => CmpW C k o₁ v w (fun c H₃ => TruthW C k c (fun b H₄ => if b = true then EvalW C k env r₂ (fun z H₅ => CmpW C k o₂ w z Q R H₅) R ρ H₄ else Q c H₄) R H₃) R H₂) R ρ H₁) R ρ H)
    (hm : lastMarks [o₁, o₂] [r₁, r₂] = false := by with_unfolding_all rfl) : EvalW C k env (.Compare l [o₁, o₂] [r₁, r₂] p) Q R ρ H := fun A a s S => by
  refine Compare_chain (wp_go (h A a s S) fun x v H₁ s₁ h₁ S₁ r₁ E₁ => ?_) hm
  unfold compareChain
  refine wpAny_bind (wpAny_holding (wp_go (h₁ A a s₁ (S.ext S₁ E₁)) (fun y w H₂ s₂ h₂ S₂ r₂ E₂ => wpAny_bind (wpAny_standAt (wpAny_bind (wpAny_holding ?_)))) fun _ _ p => p.after E₁))
  refine wp_go (h₂ A a s₂ x y S₂ (r₁.ext E₂) r₂) (fun z c H₃ s₃ h₃ S₃ r₃ E₃ => ?_) fun _ _ p => p.after (E₁.trans E₂)
  refine wpAny_bind (fun Γ p hΓ => ?_)
  rw [Sem.wp_release]
  show wpAny C.M A _ _ _ s₃
  refine wpAny_bind (wpAny_holding (wp_go (h₃ A a s₃ z S₃ r₃) (fun b b' H₄ s₄ h₄ S₄ e₄ E₄ => ?_) fun _ _ p => p.after ((E₁.trans E₂).trans E₃)))
  have e' : b' = b := e₄
  subst e'
  have E' := ((E₁.trans E₂).trans E₃).trans E₄
  cases b'
  · simp only [Bool.false_eq_true, if_false] at h₄ ⊢
    exact wpAny_pure ⟨c, H₄, h₄, S₄, r₃.ext E₄, E'⟩
  · simp only [if_true] at h₄ ⊢
    show wpAny C.M A (compareChain _ y [o₂] [eval _ env]) _ _ s₄
    unfold compareChain
    refine wpAny_bind (wpAny_holding (wp_go (h₄ A a s₄ (S.ext S₄ E')) (fun t tv H₅ s₅ h₅ S₅ r₅ E₅ => wpAny_bind (wpAny_standAt fun Γ p hΓ => ?_)) fun _ _ p => p.after E'))
    rw [Sem.wp_operate]
    exact wp_fin (E'.trans E₅) (h₅ A a s₅ y t S₅ (r₂.ext (E₃.trans (E₄.trans E₅))) r₅) Γ p hΓ

theorem TestW.compare2 {l o₁ o₂ r₁ r₂ p} (h : EvalW C k env l (fun v H₁ => EvalW C k env r₁ (fun w H₂ => CmpW C k o₁ v w (fun c H₃ => TruthW C k c (fun b H₄ => if b = true then EvalW C k env r₂ (fun z H₅ => CmpW C k o₂ w z (fun c' H₆ => TruthW C k c' QB R H₆) R H₅) R ρ H₄ else QB false H₄) R H₃) R H₂) R ρ H₁) R ρ H)
    (hm : lastMarks [o₁, o₂] [r₁, r₂] = false := by with_unfolding_all rfl) : TestW C k env (.Compare l [o₁, o₂] [r₁, r₂] p) QB R ρ H := fun A a s S => by
  refine isTrue_chain (wp_go (h A a s S) fun x v H₁ s₁ h₁ S₁ r₁ E₁ => ?_) hm
  unfold testChain
  refine wpAny_bind (wpAny_holding (wp_go (h₁ A a s₁ (S.ext S₁ E₁)) (fun y w H₂ s₂ h₂ S₂ r₂ E₂ => wpAny_bind (wpAny_standAt (wpAny_bind (wpAny_holding ?_)))) fun _ _ p => p.after E₁))
  refine wp_go (h₂ A a s₂ x y S₂ (r₁.ext E₂) r₂) (fun z c H₃ s₃ h₃ S₃ r₃ E₃ => ?_) fun _ _ p => p.after (E₁.trans E₂)
  refine wpAny_bind (fun Γ p hΓ => ?_)
  rw [Sem.wp_release]
  show wpAny C.M A _ _ _ s₃
  refine wpAny_bind (wpAny_holding (wp_go (h₃ A a s₃ z S₃ r₃) (fun b b' H₄ s₄ h₄ S₄ e₄ E₄ => ?_) fun _ _ p => p.after ((E₁.trans E₂).trans E₃)))
  have e' : b' = b := e₄
  subst e'
  have E' := ((E₁.trans E₂).trans E₃).trans E₄
  cases b'
  · simp only [Bool.false_eq_true, if_false] at h₄ ⊢
    exact wpAny_pure ⟨false, H₄, h₄, S₄, rfl, E'⟩
  · simp only [if_true] at h₄ ⊢
    show wpAny C.M A (testChain _ y [o₂] [eval _ env]) _ _ s₄
    unfold testChain
    refine wpAny_bind (wpAny_holding (wp_go (h₄ A a s₄ (S.ext S₄ E')) (fun t tv H₅ s₅ h₅ S₅ r₅ E₅ => wpAny_bind (wpAny_standAt (wpAny_bind fun Γ p hΓ => ?_))) fun _ _ p => p.after E'))
    rw [Sem.wp_operate]
    refine (wp_go (h₅ A a s₅ y t S₅ (r₂.ext (E₃.trans (E₄.trans E₅))) r₅) (fun u c' H₆ s₆ h₆ S₆ r₆ E₆ => wpAny_holding (wp_fin ((E'.trans E₅).trans E₆) (h₆ A a s₆ u S₆ r₆))) fun _ _ p => p.after (E'.trans E₅) : wpAny C.M A _ _ _ s₅) Γ p hΓ

/- empty dicts -/
theorem newDict_W {A : Around} {s : Shared} {E : Value → Shared → Prop} {P : Value → Shared → Prop} (S : Sim C H s) (o : O) (ho : o = .dictI (fun _ => Option.none) 0 ∨ o = .dictS (fun _ => Option.none) 0)
    (h : ∀ a s', H a = Option.none → Sim C (H.set a o) s' → Ext H s.heap (H.set a o) s'.heap → P (.ref a) s') : wpAny C.M A newDict P E s := by
  have hk : ∀ b o, s.heap.get? b = some o → (s.heap.push { cls := .type "dict", data := .dict #[] }).get? b = some o := fun b o e => Heap.get?_push_of_some _ e
  refine wpAny_newObj_type ?_
  have r : ORel C (s.heap.push { cls := .type "dict", data := .dict #[] }) (H.set s.heap.objs.size o) s.heap.objs.size o := by
    rcases ho with rfl | rfl
    · exact ⟨[], Heap.DictOf.new _, Nat.le_refl _, fun _ => trivial⟩
    · exact ⟨[], Heap.DictOf.new _, Nat.le_refl _, fun _ => trivial⟩
  obtain ⟨S', E'⟩ := S.alloc (s' := { s with heap := s.heap.push { cls := .type "dict", data := .dict #[] } }) hk rfl rfl r
  exact h _ _ (S.fresh (Nat.le_refl _)) S' E'
theorem EvalW.dictI {p} (h : ∀ a, H a = Option.none → Q (.ref a) (H.set a (.dictI (fun _ => Option.none) 0))) : EvalW C k env (.Dict [] [] p) Q R ρ H := fun A a s S => by
  rw [eval_Dict_empty]
  exact wpAny_bind (wpAny_standAt (newDict_W S.sim _ (.inl rfl) fun b s' n S' E' => ⟨_, _, h b n, S', .ref b, E'⟩))
theorem EvalW.dictS0 {p} (h : ∀ a, H a = Option.none → Q (.ref a) (H.set a (.dictS (fun _ => Option.none) 0))) : EvalW C k env (.Dict [] [] p) Q R ρ H := fun A a s S => by
  rw [eval_Dict_empty]
  exact wpAny_bind (wpAny_standAt (newDict_W S.sim _ (.inr rfl) fun b s' n S' E' => ⟨_, _, h b n, S', .ref b, E'⟩))

/- item stores -/
theorem valueAt_stored' {K : Type} [DecidableEq K] (kvs : List (K × Value)) (k x : K) (v : Value) : valueAt (stored kvs k v) x = if x = k then some v else valueAt kvs x := by
  unfold valueAt stored
  split
  · rename_i hany
    induction kvs with
    | nil => simp at hany
    | cons p r ih =>
      obtain ⟨a, b⟩ := p
      by_cases hak : a = k
      · subst hak
        by_cases hx : x = a
        · subst hx; simp
        · have : ¬ a = x := fun e => hx e.symm
          by_cases hr : (r.any fun kv => decide (kv.1 = a)) = true
          · have ih' := ih hr
            simp only [hx, if_false] at ih' ⊢
            simp only [List.map_cons, if_true, List.find?_cons, this, decide_false]
            exact ih'
          · have hmap : r.map (fun kv => if kv.1 = a then (kv.1, v) else kv) = r := by
              refine (List.map_congr_left fun y hy => ?_).trans (List.map_id r)
              have : ¬ y.1 = a := fun e => hr (List.any_eq_true.mpr ⟨y, hy, by simp [e]⟩)
              simp [this]
            simp only [hx, if_false, List.map_cons, if_true, List.find?_cons, this, decide_false, hmap]
      · have hr : (r.any fun kv => decide (kv.1 = k)) = true := by simpa [hak] using hany
        have ih' := ih hr
        simp only [List.map_cons, hak, if_false, List.find?_cons]
        by_cases hx : a = x
        · subst hx; simp [hak]
        · simp only [hx, decide_false]; exact ih'
  · rename_i hany
    rw [List.find?_append]
    by_cases hx : x = k
    · subst hx
      have : kvs.find? (fun kv => decide (kv.1 = x)) = Option.none := by
        rw [List.find?_eq_none]; intro y hy; simp; intro e; exact hany (List.any_eq_true.mpr ⟨y, hy, by simp [e]⟩)
      simp [this]
    · have : ¬ k = x := fun e => hx e.symm
      simp [hx, this]

def SetW (C : Cx) (k : Nat) (v i u : V) (Q : Hp → Prop) (R : V → Hp → Prop) (H : Hp) : Prop :=
  ∀ A, Lv C k A → ∀ s x y z, Sim C H s → VRel s.heap H v x → VRel s.heap H i y → VRel s.heap H u z → wpAny C.M A (setItem x y z) (Post C H s.heap (fun _ _ (_ _ : Unit) => True) (fun _ H' => Q H')) (Post C H s.heap VRel R) s
theorem ExecW.assign_sub {o i p' e p} (h : EvalW C k env e (fun u H₁ => EvalW C k env o (fun v H₂ => EvalW C k env i (fun j H₃ => SetW C k v j u (fun H₄ => QS .next ρ H₄) (fun w H' => RS w ρ H') H₃) (fun w H' => RS w ρ H') ρ H₂) (fun w H' => RS w ρ H') ρ H₁) (fun w H' => RS w ρ H') ρ H)
    (hs : swapsWith e (some (.Subscript o i p')) p.line env = pure false := by rfl) : ExecW C k env (.Assign [.Subscript o i p'] e p) QS RS ρ H := fun A a s S => by
  refine wpAny_Assign_Subscript (wp_go (h A a s S) (fun z u H₁ s₁ h₁ S₁ r₁ E₁ => ?_) fun _ _ p => p.toX S) hs
  refine wp_go (h₁ A a s₁ (S.ext S₁ E₁)) (fun x v H₂ s₂ h₂ S₂ r₂ E₂ => ?_) fun _ _ p => (p.after E₁).toX S
  refine wp_go (h₂ A a s₂ (S.ext S₂ (E₁.trans E₂))) (fun y j H₃ s₃ h₃ S₃ r₃ E₃ => ?_) fun _ _ p => (p.after (E₁.trans E₂)).toX S
  refine wpAny_mono (h₃ A a s₃ x y z S₃ (r₂.ext E₃) r₃ (r₁.ext (E₂.trans E₃))) ?_ fun _ _ p => (p.after ((E₁.trans E₂).trans E₃)).toX S
  rintro _ s₄ ⟨_, H₄, q, S₄, _, E₄⟩
  have E := ((E₁.trans E₂).trans E₃).trans E₄
  exact ⟨.next, ρ, H₄, q, trivial, S.ext S₄ E, E.toF⟩
theorem SetW.dictI {a : Addr} {m : Int → Option V} {n : Nat} {i : Int} {u : V} {QH : Hp → Prop} (ha : H a = some (.dictI m n)) (hn : n ≤ 100000) (h : QH (H.set a (.dictI (fun x => if x = i then some u else m x) (n + 1)))) : SetW C k (.ref a) (.int i) u QH R H := fun A lv s x y z S r1 r2 r3 => by
  cases r1; cases r2
  obtain ⟨f, hm, hle, hr⟩ := S.objs _ _ ha
  refine wpAny_setItem_pairs (intKind_is _ _ _ _) hm (fun h' hm' hs => ?_) (Nat.le_trans hle (Nat.le_trans hn (by decide)))
  have hex : ∃ ob, h'.get? a = some ob := let ⟨o, _, _, e, _⟩ := hm'; ⟨o, e⟩
  have hne : ∀ b, H b = none → b ≠ a := fun b e q => by subst q; rw [ha] at e; cases e
  have E0 : ∀ o', ExtV H s.heap (H.set a o') h' := fun o' b ob _ _ e _ n => ⟨(hs.2 b (hne b n)).trans e, by unfold Hp.set; rw [if_neg (hne b n)]; exact n⟩
  obtain ⟨S', E'⟩ := S.update (s' := { s with heap := h', toks := s.toks + 1 }) (o' := .dictI (fun x => if x = i then some u else m x) (n + 1)) ha hs hex rfl rfl
    ⟨_, hm', Nat.le_trans (stored_length_le _ _ _) (Nat.succ_le_succ hle), fun x => by
      rw [valueAt_stored']
      by_cases q : x = i
      · simp only [q, if_true]; exact r3.extV (E0 _)
      · simp only [q, if_false]; exact (hr x).extV (E0 _)⟩
  exact ⟨(), _, h, S', trivial, E'⟩
theorem SetW.list {a : Addr} {l : List V} {i : Int} {u : V} {QH : Hp → Prop} (ha : H a = some (.list l)) (h0 : 0 ≤ i) (hi : i < l.length) (hn : l.length ≤ 100000) (h : QH (H.set a (.list (l.set i.toNat u)))) : SetW C k (.ref a) (.int i) u QH R H := fun A lv s x y z S r1 r2 r3 => by
  cases r1; cases r2
  obtain ⟨xs, hl, rl⟩ := S.objs _ _ ha
  have hz : xs.size = l.length := by have := rl.length; simpa using this
  obtain ⟨n, ho⟩ := hl
  refine ki_setAt (items := xs) (n := n) ho h0 (by omega) (by omega) ?_
  have e1 : Obj.mapSeq (·.setIfInBounds i.toNat z) { cls := .type "list", data := .seq xs n } = { cls := .type "list", data := .seq (xs.setIfInBounds i.toNat z) n } := by simp [Obj.mapSeq]
  have hs := Heap.SameBut.update s.heap a (Obj.mapSeq (·.setIfInBounds i.toNat z))
  have hl' : (s.heap.update a (Obj.mapSeq (·.setIfInBounds i.toNat z))).PlainList a (xs.setIfInBounds i.toNat z) := ⟨n, by rw [Heap.get?_update_self _ ho (by rw [e1]; rfl), e1]⟩
  generalize s.heap.update a (Obj.mapSeq (·.setIfInBounds i.toNat z)) = h' at hs hl'
  have hex : ∃ ob, h'.get? a = some ob := let ⟨_, e⟩ := hl'; ⟨_, e⟩
  have hne : ∀ b, H b = none → b ≠ a := fun b e q => by subst q; rw [ha] at e; cases e
  have E0 : ExtV H s.heap (H.set a (.list (l.set i.toNat u))) h' := fun b ob _ _ e _ n => ⟨(hs.2 b (hne b n)).trans e, by unfold Hp.set; rw [if_neg (hne b n)]; exact n⟩
  obtain ⟨S', E'⟩ := S.update (s' := { s with heap := h' }) (o' := .list (l.set i.toNat u)) ha hs hex rfl rfl ⟨_, hl', by simpa using (rl.extV E0).set (r3.extV E0)⟩
  exact ⟨(), _, h, S', trivial, E'⟩

end Mine

set_option Elab.async false
set_option linter.unusedVariables false
namespace Mine
open PySem PySem.W PyProof.Rows

variable {C : Cx} {k : Nat} {env : Env} {ρ : Rho} {H : Hp} {Q R : V → Hp → Prop} {QB : Bool → Hp → Prop} {QS : Fl → Rho → Hp → Prop} {RS : V → Rho → Hp → Prop}

theorem VRelL.bools {h : Heap} : ∀ {bs : List Bool} {xs : List Value}, VRelL h H (bs.map V.bool) xs → xs = bs.map Value.bool
  | [], _, .nil => rfl
  | b :: bs, _, .cons r rl => by cases r; rw [rl.bools]; rfl
theorem truthOf_bools {A : Around} {prog : Program} {w : World} {xs : Array Value} {bs : List Bool} (e : xs.toList = bs.map Value.bool) : TruthOf prog w A (fun i v => xs[i]? = some v) (fun i => bs.getD i false) := by
  intro i v s Q E hv hq
  have : xs.toList[i]? = some v := by simpa using hv
  rw [e, List.getElem?_map] at this
  obtain ⟨b, hb, rfl⟩ := Option.map_eq_some_iff.mp this
  refine wpAny_truthy_bool ?_
  simpa [List.getD, hb] using hq
theorem range_all (bs : List Bool) : (List.range bs.length).all (fun i => bs.getD i false) = bs.all id := by
  rw [Bool.eq_iff_iff]
  simp only [List.all_eq_true, List.mem_range]
  constructor
  · intro h b hb
    obtain ⟨i, hi, rfl⟩ := List.mem_iff_getElem.mp hb
    simpa [List.getD, hi] using h i hi
  · intro h i hi
    simpa [List.getD, hi] using h bs[i] (List.getElem_mem hi)
theorem range_any (bs : List Bool) : (List.range bs.length).any (fun i => bs.getD i false) = bs.any id := by
  rw [Bool.eq_iff_iff]
  simp only [List.any_eq_true, List.mem_range]
  constructor
  · rintro ⟨i, hi, h⟩
    exact ⟨bs[i], List.getElem_mem hi, by simpa [List.getD, hi] using h⟩
  · rintro ⟨b, hb, h⟩
    obtain ⟨i, hi, rfl⟩ := List.mem_iff_getElem.mp hb
    exact ⟨i, hi, by simpa [List.getD, hi] using h⟩

theorem iter_list_W {A : Around} {s : Shared} {a : Addr} {xs : Array Value} (S : Sim C H s) (hl : s.heap.IsList a xs) {P : Value → Shared → Prop} {E : Value → Shared → Prop} (hh : A.handled = none)
    (h : ∀ I s', Walks C.prog C.w A I [I, a] [I] xs.size (fun i v => xs[i]? = some v) (fun i h => h.IsListIter I a i ∧ h.IsList a xs) → (s'.heap.IsListIter I a 0 ∧ s'.heap.IsList a xs) → s.heap.objs.size ≤ I →
      (∀ b o, s.heap.get? b = some o → s'.heap.get? b = some o) → s'.gens = s.gens → s'.os = s.os → P (.ref I) s') : wpAny C.M A (pyIter (.ref a)) P E s := by
  refine wpAny_pyIter_list hl (h _ _ (Walks.list hh _ a ?_ xs) ⟨⟨_, Heap.get?_push_size _ rfl, rfl, rfl⟩, hl.push _⟩ (Nat.le_refl _) (fun b o e => Heap.get?_push_of_some _ e) rfl rfl)
  obtain ⟨o, e, _⟩ := hl
  exact Nat.ne_of_lt (Heap.lt_size e)

theorem CallW.all {v : V} {bs : List Bool} (hd : C.hd = true) (hl : lview H v = some (bs.map .bool)) (h : Q (.bool (bs.all id)) H) : CallW C k (.builtin "all") [v] Q R H := fun A a s xs S r => by
  cases r with
  | cons r r' =>
    cases r'
    obtain ⟨ad, ys, rfl, hL, rl⟩ := lview_list hl S r
    have e := rl.bools
    have hz : ys.size = bs.length := by have := rl.length; simpa using this
    refine call_all_walk (iter_list_W S hL (a.handled hd) fun I s' W st hI hk hg ho => ⟨I, _, _, _, _, _, _, rfl, W, st, truthOf_bools e, fun h' tk hk' => ?_⟩)
    rw [hz, range_all]
    have hk2 : ∀ b o, s.heap.get? b = some o → h'.get? b = some o := fun b o q => hk' b o (fun m => by simp at m; subst m; exact absurd (Heap.lt_size q) (Nat.not_lt.mpr hI)) (hk b o q)
    exact ⟨_, H, h, S.grown (s' := { s' with heap := h', toks := tk }) hk2 hg ho, .bool _, Ext.grown hk2⟩
theorem CallW.any {v : V} {bs : List Bool} (hd : C.hd = true) (hl : lview H v = some (bs.map .bool)) (h : Q (.bool (bs.any id)) H) : CallW C k (.builtin "any") [v] Q R H := fun A a s xs S r => by
  cases r with
  | cons r r' =>
    cases r'
    obtain ⟨ad, ys, rfl, hL, rl⟩ := lview_list hl S r
    have e := rl.bools
    have hz : ys.size = bs.length := by have := rl.length; simpa using this
    refine call_any_walk (iter_list_W S hL (a.handled hd) fun I s' W st hI hk hg ho => ⟨I, _, _, _, _, _, _, rfl, W, st, truthOf_bools e, fun h' tk hk' => ?_⟩)
    rw [hz, range_any]
    have hk2 : ∀ b o, s.heap.get? b = some o → h'.get? b = some o := fun b o q => hk' b o (fun m => by simp at m; subst m; exact absurd (Heap.lt_size q) (Nat.not_lt.mpr hI)) (hk b o q)
    exact ⟨_, H, h, S.grown (s' := { s' with heap := h', toks := tk }) hk2 hg ho, .bool _, Ext.grown hk2⟩

/-- a new list laid at the heap's end -/
theorem newAt_W {s s' : Shared} {l : List V} {xs : Array Value} (S : Sim C H s) (hk : ∀ b o, s.heap.get? b = some o → s'.heap.get? b = some o) (hl : s'.heap.PlainList s.heap.objs.size xs) (r : VRelL s.heap H l xs.toList) (hg : s'.gens = s.gens) (ho : s'.os = s.os)
    (h : ∀ a, H a = Option.none → Q (.ref a) (H.set a (.list l))) : Post C H s.heap VRel Q (.ref s.heap.objs.size) s' := by
  have E0 : Ext H s.heap (H.set s.heap.objs.size (.list l)) s'.heap :=
    ⟨fun a ob e _ => hk a ob e, fun a ob e n => by unfold Hp.set; rw [if_neg (Nat.ne_of_lt (Heap.lt_size e))]; exact n, fun a ob e => ⟨ob, hk a ob e⟩⟩
  obtain ⟨S', E'⟩ := S.alloc hk hg ho (o := .list l) ⟨xs, hl, r.ext E0⟩
  exact ⟨_, _, h _ (S.fresh (Nat.le_refl _)), S', .ref _, E'⟩

theorem CallW.listCopy {v : V} {l : List V} (hl : lview H v = some l) (hn : l.length ≤ 100000) (h : ∀ a, H a = Option.none → Q (.ref a) (H.set a (.list l))) : CallW C k (.type "list") [v] Q R H := fun A a s xs S r => by
  cases r with
  | cons r r' =>
    cases r'
    obtain ⟨ad, ys, rfl, ⟨o, e, c, n, d⟩, rl⟩ := lview_list hl S r
    have hz : ys.size = l.length := by have := rl.length; simpa using this
    refine call_list_seq (hsz := by rw [hz]; exact Nat.le_trans hn (by decide)) ad (.inl rfl) e c d fun h' c' hk hD => ?_
    exact newAt_W S hk ⟨_, hD⟩ rl rfl rfl h
theorem CallW.listOfTup {l : List V} (hn : l.length ≤ 100000) (h : ∀ a, H a = Option.none → Q (.ref a) (H.set a (.list l))) : CallW C k (.type "list") [.tup l] Q R H := fun A a s xs S r => by
  cases r with
  | cons r r' =>
    cases r'
    cases r with
    | @tup ad _ ys ha ho rl =>
      obtain ⟨o, e, c, n, d⟩ := ha
      have hz : ys.size = l.length := by have := rl.length; simpa using this
      refine call_list_seq (hsz := by rw [hz]; exact Nat.le_trans hn (by decide)) ad (.inr rfl) e c d fun h' c' hk hD => ?_
      exact newAt_W S hk ⟨_, hD⟩ rl rfl rfl h

theorem BinW.addL {v w : V} {l l' : List V} (hv : lview H v = some l) (hw : lview H w = some l') (hn : l.length + l'.length ≤ 100000) (h : ∀ a, H a = Option.none → Q (.ref a) (H.set a (.list (l ++ l')))) : BinW C k .Add v w Q R H := fun A a s x y S r1 r2 => by
  obtain ⟨a1, xs, rfl, hL, rl⟩ := lview_list hv S r1
  obtain ⟨a2, ys, rfl, hL', rl'⟩ := lview_list hw S r2
  have hz : xs.size = l.length := by have := rl.length; simpa using this
  have hz' : ys.size = l'.length := by have := rl'.length; simpa using this
  obtain ⟨⟨cls, dd, data, sl⟩, ho, hc, n, hd⟩ := id hL
  obtain ⟨⟨cls2, dd2, data2, sl2⟩, ho2, hc2, n2, hd2⟩ := id hL'
  simp only at hc hd hc2 hd2
  subst hc hd hc2 hd2
  refine concat_meets ⟨_, ho, rfl⟩ ⟨_, ho2, rfl⟩ noFill_list_add seq_list_add PySem.F.slot_list_add PySem.F.entry_list_add (PySem.F.args_list_add_2 _ _) (list_addW a1 a2 xs ys n n2 dd dd2 sl sl2 (by rw [hz, hz']; exact Nat.le_trans hn (by decide))) ⟨ho, ho2, ?_⟩
  exact newAt_W S (fun b o e => Heap.get?_push_of_some _ e) ⟨_, Heap.get?_push_size _ rfl⟩ (by simpa using rl.append rl') rfl rfl h

end Mine

set_option Elab.async false
set_option linter.unusedVariables false
namespace Mine
open PySem PySem.W PyProof.Rows

variable {C : Cx} {k : Nat} {env : Env} {ρ : Rho} {H : Hp} {Q R : V → Hp → Prop} {QB : Bool → Hp → Prop} {QS : Fl → Rho → Hp → Prop} {RS : V → Rho → Hp → Prop}

theorem foldl_rep (x : Value) : ∀ (n : Nat) (acc : Array Value), (List.foldl (fun x1 x2 => x1 ++ x2) acc (List.replicate n #[x])).toList = acc.toList ++ List.replicate n x
  | 0, acc => by simp
  | n + 1, acc => by rw [List.replicate_succ, List.foldl_cons, foldl_rep x n, List.replicate_succ]; simp
theorem VRelL.rep {h : Heap} {v : V} {x : Value} (r : VRel h H v x) : ∀ n : Nat, VRelL h H (List.replicate n v) (List.replicate n x)
  | 0 => .nil
  | n + 1 => .cons r (rep r n)

/-- [e] * n -/
theorem EvalW.listMul {e p1 n p2} (h : EvalW C k env e (fun v H₁ => EvalW C k env n (fun w H₂ => ∃ i : Int, w = .int i ∧ i ≤ 100000 ∧ -100000 ≤ i ∧ ∀ a, H₂ a = Option.none → Q (.ref a) (H₂.set a (.list (List.replicate i.toNat v)))) R ρ H₁) R ρ H)
    (he : starEach [e] env = [(false, eval e env)] := by rfl) : EvalW C k env (.BinOp (.List [e] p1) .Mult n p2) Q R ρ H := fun A a s S => by
  refine wpAny_BinOp (List_ ?_)
  rw [he]
  refine Calls.spliced_cons (wp_go (h A a s S) fun x v H₁ s₁ h₁ S₁ r₁ E₁ => Calls.spliced_nil ?_)
  have hk : ∀ b o, s₁.heap.get? b = some o → (s₁.heap.push { cls := .type "list", data := .seq [x].toArray }).get? b = some o := fun b o e => Heap.get?_push_of_some _ e
  refine wpAny_newObj_type ?_ (by show [x].toArray.size ≤ sizeLine; simp; decide)
  have S₂ : Sim C H₁ { s₁ with heap := s₁.heap.push { cls := .type "list", data := .seq [x].toArray } } := S₁.grown (s' := { s₁ with heap := s₁.heap.push { cls := .type "list", data := .seq [x].toArray } }) hk rfl rfl
  have E₂ : Ext H₁ s₁.heap H₁ (s₁.heap.push { cls := .type "list", data := .seq [x].toArray }) := Ext.grown hk
  refine wp_go (h₁ A a _ (S.ext S₂ (E₁.trans E₂))) (fun y w H₃ s₃ h₃ S₃ r₃ E₃ => ?_) fun _ _ p => p.after (E₁.trans E₂)
  obtain ⟨i, rfl, hi1, hi2, hQ⟩ := h₃
  cases r₃ with
  | int _ u =>
    have hl : s₃.heap.get? s₁.heap.objs.size = some { cls := .type "list", dict := Option.none, data := .seq [x].toArray 0, slots := #[] } := E₃.keep _ _ (Heap.get?_push_size _ rfl) (S₁.fresh (Nat.le_refl _))
    have rx := r₁.ext (E₂.trans E₃)
    have E' := (E₁.trans E₂).trans E₃
    refine wpAny_binaryOp_repeat_ref (T := "list") (U := "int") (by decide) ⟨_, hl, rfl⟩ (fun s' => typeIs_int s' i u) noFill_list_mul F.fills_int_mul F.slot_int_rmul repeat_list F.slot_int_index.lookup
      (call_meets F.slot_int_rmul (typeIs_int s₃ i u) F.entry_int_rmul (F.args_int_rmul_2 _ _) (int___rmul___int_list i u s₁.heap.objs.size _ 0)
      ⟨hl, rfl, ⟨_, hl, rfl⟩, call_meets F.slot_list_mul ⟨_, hl, rfl⟩ F.entry_list_mul (F.args_list_mul_2 _ _)
        (AutoListH.list___mul___list_int_3 s₁.heap.objs.size _ 0 i u (by simp [Builtin.List.listFitsIndex]; omega) (by simp; omega) (by simp [Builtin.List.listTooLong, sizeLine]; omega))
        ⟨hl, ?_⟩⟩)
    have := newAt_W (Q := Q) (l := List.replicate i.toNat v) (s' := { s₃ with heap := s₃.heap.push { cls := .type "list", data := .seq (List.foldl (fun x1 x2 => x1 ++ x2) #[] (List.replicate (if ([x].toArray : Array Value).isEmpty = true then 0 else i.toNat) [x].toArray)) } })
      S₃ (fun b o e => Heap.get?_push_of_some _ e) ⟨_, Heap.get?_push_size _ rfl⟩ (by
        have e0 : (if ([x].toArray : Array Value).isEmpty = true then 0 else i.toNat) = i.toNat := by simp
        rw [e0]
        have := foldl_rep x i.toNat #[]
        simp only [List.nil_append, Array.toList_empty] at this
        show VRelL _ _ _ (List.foldl (fun x1 x2 => x1 ++ x2) #[] (List.replicate i.toNat #[x])).toList
        rw [this]; exact VRelL.rep rx _) rfl rfl hQ
    exact this.after E'

end Mine

set_option Elab.async false
set_option linter.unusedVariables false
namespace Mine
open PySem PySem.W PyProof.Rows

variable {C : Cx} {k : Nat} {env : Env} {ρ : Rho} {H : Hp} {Q R : V → Hp → Prop} {QB : Bool → Hp → Prop} {QS : Fl → Rho → Hp → Prop} {RS : V → Rho → Hp → Prop}

theorem MethIs.list {a : Addr} {l : List V} {name : Str} {id : String} (ha : H a = some (.list l)) (slot : Slot "list" name id) (hty : typeOf (.builtin id) = pure (.type "method_descriptor")) : MethIs C H (.ref a) name (.builtin id) := by
  intro A s x pl Q E S r hq
  cases r
  obtain ⟨xs, ⟨n, ho⟩, rl⟩ := S.objs _ _ ha
  exact getMethod_builtin ⟨_, ho, rfl⟩ PySem.F.plainAttrs_list slot hty (fun a e => by cases e; exact ⟨_, ho, rfl⟩) hq
theorem MethIs.append {a : Addr} {l : List V} (ha : H a = some (.list l)) : MethIs C H (.ref a) "append" (.builtin "list.append") := MethIs.list ha slot_list_append type_list_append

theorem CallW.append {a : Addr} {l : List V} {v : V} (ha : H a = some (.list l)) (hn : l.length ≤ 1000) (h : Q .none (H.set a (.list (l ++ [v])))) : CallW C k (.builtin "list.append") [.ref a, v] Q R H := fun A lv s xs S r => by
  cases r with
  | cons r1 r' => cases r' with
    | cons r2 r' => cases r'; cases r1; exact append_W S ha hn r2 fun s' S' E' => ⟨.none, _, h, S', .none, E'⟩

theorem lview_ref {a : Addr} {l : List V} (ha : H a = some (.list l)) : lview H (.ref a) = some l := by simp [lview, ha]
theorem lview_le {H H' : Hp} (hle : Hp.le H H') {v : V} {l : List V} (h : lview H v = some l) : lview H' v = some l := by
  cases v with
  | ref a =>
    simp only [lview] at h ⊢
    split at h
    · rename_i l' e; cases h; rw [hle _ _ e]
    · cases h
  | _ => exact h
theorem Hp.le_refl (H : Hp) : Hp.le H H := fun _ _ e => e
theorem Hp.le_trans {H H' H'' : Hp} (x : Hp.le H H') (y : Hp.le H' H'') : Hp.le H H'' := fun a o e => y a o (x a o e)
theorem Hp.le_set {H : Hp} {a : Addr} {o : O} (ha : H a = Option.none) : Hp.le H (H.set a o) := fun b ob e => by
  unfold Hp.set; split
  · rename_i q; subst q; rw [ha] at e; cases e
  · exact e
theorem Hp.set_self (H : Hp) (a : Addr) (o : O) : (H.set a o) a = some o := by simp [Hp.set]
theorem Hp.set_ne {H : Hp} {a b : Addr} {o : O} (h : b ≠ a) : (H.set a o) b = H b := by simp [Hp.set, h]
theorem Hp.set_set (H : Hp) (a : Addr) (o o' : O) : (H.set a o).set a o' = H.set a o' := by
  funext b; simp only [Hp.set]; split <;> rfl
theorem lcond_le {H H' : Hp} {v : V} {l : List V} (h : lview H v = some l) (hle : Hp.le H H') : lcond v l H' := lview_le hle h

/-- names by a list -/
def Rho.of : List (Str × V) → Rho
  | [] => fun _ => Option.none
  | (x, v) :: l => (Rho.of l).set x v
def Rho.sat : List (Str × V) → Rho → Prop
  | [], _ => True
  | (x, v) :: l, ρ => ρ x = some v ∧ Rho.sat l ρ
theorem Rho.sat.le : ∀ {l : List (Str × V)} {ρ : Rho}, Rho.sat l ρ → Rho.le (Rho.of l) ρ
  | [], ρ, _ => fun y w e => by cases e
  | (x, v) :: l, ρ, h => fun y w e => by
    simp only [Rho.of, Rho.set] at e
    split at e
    · rename_i q; subst q; cases e; exact h.1
    · exact Rho.sat.le h.2 y w e
theorem Rho.le_refl (ρ : Rho) : Rho.le ρ ρ := fun _ _ e => e

theorem ExecsW.weaken {sts ρ'} (hle : Rho.le ρ ρ') (h : ExecsW C k env sts QS RS ρ H) : ExecsW C k env sts QS RS ρ' H := fun A a s S => h A a s (S.weaken hle)
theorem ExecW.weaken {st ρ'} (hle : Rho.le ρ ρ') (h : ExecW C k env st QS RS ρ H) : ExecW C k env st QS RS ρ' H := fun A a s S => h A a s (S.weaken hle)
theorem ExecsW.conseq {sts} {Q' : Fl → Rho → Hp → Prop} (h : ExecsW C k env sts Q' RS ρ H) (hq : ∀ fl ρ₁ H₁, Q' fl ρ₁ H₁ → ∃ ρ₂, Rho.le ρ₂ ρ₁ ∧ QS fl ρ₂ H₁) : ExecsW C k env sts QS RS ρ H := fun A a s S =>
  wpAny_mono (h A a s S) (fun x s' ⟨fl, ρ₁, H₁, q, r, S', E⟩ => let ⟨ρ₂, hle, q'⟩ := hq fl ρ₁ H₁ q; ⟨fl, ρ₂, H₁, q', r, S'.weaken hle, E⟩) fun _ _ p => p
theorem AssignW.conseq {t v} {P P' : Rho → Prop} (h : AssignW C k env t v P ρ H) (hp : ∀ ρ, P ρ → P' ρ) : AssignW C k env t v P' ρ H := fun A a s x S r P₀ E hP => h A a s x S r P₀ E fun ρ' s' q => hP ρ' s' (hp _ q)

/-- what a loop's body leaves -/
def LoopQ (Inv : List (Str × V) → Hp → Prop) (QS : Fl → Rho → Hp → Prop) : Fl → Rho → Hp → Prop
  | .next, ρ, H => ∃ l, Inv l H ∧ Rho.sat l ρ
  | .cont, ρ, H => ∃ l, Inv l H ∧ Rho.sat l ρ
  | .brk, ρ, H => QS .next ρ H
  | .ret u, ρ, H => QS (.ret u) ρ H

theorem ExecW.for_in {target iter body pos} (tup : Bool) (hd : C.hd = true) (ht : IsTupleE tup target)
    (h : IterE C k env tup iter (fun items cond H₁ => ∃ Inv : List V → List (Str × V) → Hp → Prop, (∃ l, Inv items l H₁ ∧ Rho.sat l ρ) ∧ (∀ r l H, Inv r l H → cond H) ∧
      (∀ v r l H, Inv (v :: r) l H → AssignW C k env target v (fun ρ' => ExecsW C k env body (LoopQ (Inv r) QS) (fun _ _ _ => False) ρ' H) (Rho.of l) H) ∧
      (∀ l H, Inv [] l H → QS .next (Rho.of l) H)) (fun v H' => RS v ρ H') ρ H)
    (hs : ∀ x, foldedSetIterable iter env x = pure x := by intro _; rfl) : ExecW C k env (.For target iter body [] pos) QS RS ρ H := fun A a s S => by
  refine wpAny_For ?_ hs
  refine h A a s S _ _ (fun _ _ p => p.toX S) ?_
  rintro I wr St items cond H₂ s₂ ⟨Inv, ⟨l, hi, hl⟩, hc, step, fin⟩ IT hcd st hn S₂ E₂
  refine for_core IT ht hd a (ρ := Rho.of l) (fun r ρ H => ∃ l, ρ = Rho.of l ∧ Inv r l H) (fun r ρ H ⟨l, _, h⟩ => hc r l H h) ?_ ?_ hn (fun f s' p => p) items s₂ ((S.ext S₂ E₂).weaken hl.le) E₂.toF st ⟨l, rfl, hi⟩
  · rintro v r ρ H ⟨l, rfl, hi⟩
    refine (step v r l H hi).conseq fun ρ' hb => hb.conseq fun fl ρ₁ H₁ q => ?_
    cases fl with
    | next => obtain ⟨l', i', s'⟩ := q; exact ⟨_, s'.le, l', rfl, i'⟩
    | cont => obtain ⟨l', i', s'⟩ := q; exact ⟨_, s'.le, l', rfl, i'⟩
    | brk => exact ⟨_, Rho.le_refl _, q⟩
    | ret u => exact ⟨_, Rho.le_refl _, q⟩
  · rintro ρ H ⟨l, rfl, hi⟩; exact fin l H hi

theorem ExecW.while_in {test body pos} (Inv : Nat → List (Str × V) → Hp → Prop) (n : Nat) (h0 : ∃ l, Inv n l H ∧ Rho.sat l ρ)
    (step : ∀ n l H, Inv n l H → TestW C k env test (fun b H' => if b = true then ExecsW C k env body (LoopQ (fun l H => ∃ m, m < n ∧ Inv m l H) QS) (fun _ _ _ => False) (Rho.of l) H' else QS .next (Rho.of l) H') (fun _ _ => False) (Rho.of l) H) :
    ExecW C k env (.While test body [] pos) QS RS ρ H := by
  obtain ⟨l, hi, hl⟩ := h0
  refine ExecW.weaken hl.le (ExecW.while_ (fun n ρ H => ∃ l, ρ = Rho.of l ∧ Inv n l H) n ⟨l, rfl, hi⟩ ?_)
  rintro n ρ H ⟨l, rfl, hi⟩ A a s S
  refine wpAny_mono (step n l H hi A a s S) (fun b s' ⟨b', H', q, r⟩ => ⟨b', H', ?_, r⟩) fun _ _ p => p
  cases b'
  · exact q
  · refine ExecsW.conseq q fun fl ρ₁ H₁ q => ?_
    cases fl with
    | next => obtain ⟨l', ⟨m, hm, i'⟩, s'⟩ := q; exact ⟨_, s'.le, m, hm, l', rfl, i'⟩
    | cont => obtain ⟨l', ⟨m, hm, i'⟩, s'⟩ := q; exact ⟨_, s'.le, m, hm, l', rfl, i'⟩
    | brk => exact ⟨_, Rho.le_refl _, q⟩
    | ret u => exact ⟨_, Rho.le_refl _, q⟩

/-- a comprehension over one name, with no effect but the list that it makes -/
def PureStep (C : Cx) (k : Nat) (env : Env) (x : Str) (elt : Expr) (ifs : List Expr) (scope : Scope) (ρ : Rho) (g : V → Option V) (H : Hp) (v : V) : Prop :=
  ∀ L, IfsW C k (cenvOf env scope L) ifs (fun b H₂ => H₂ = H ∧ if b = true then EvalW C k (cenvOf env scope L) elt (fun u H₃ => H₃ = H ∧ g v = some u) (fun _ _ => False) ((Rho.hide scope ρ).set x v) H else g v = Option.none) (fun _ _ => False) ((Rho.hide scope ρ).set x v) H

def compVar (env : Env) (scope : Scope) (x : Str) : Bool := scope.names.lookup x == some .local && ((cenvOf env scope 0).scope.names.lookup x == some .local)
theorem compVar.hide {scope : Scope} {x : Str} (h : compVar env scope x = true) : scope.names.lookup x = some .local := by
  simp only [compVar, Bool.and_eq_true] at h; exact eq_of_beq h.1
theorem compVar.kind {scope : Scope} {x : Str} (h : compVar env scope x = true) (L : Addr) : (cenvOf env scope L).kindOf x = some .local := by
  simp only [compVar, Bool.and_eq_true] at h; exact eq_of_beq h.2
theorem Rho.le_hide {scope : Scope} {x : Str} {v : V} (hx : scope.names.lookup x = some .local) : Rho.le (Rho.hide scope ρ) ((Rho.hide scope ρ).set x v) := fun y w e => by
  unfold Rho.set
  split
  · rename_i q; subst q; unfold Rho.hide at e; rw [if_pos hx] at e; cases e
  · exact e

theorem EvalW.conseq {e} {Q' R' : V → Hp → Prop} (h : EvalW C k env e Q' R' ρ H) (hq : ∀ v H, Q' v H → Q v H) (hr : ∀ v H, R' v H → R v H) : EvalW C k env e Q R ρ H := fun A a s S =>
  wpAny_mono (h A a s S) (fun x s' ⟨v, H', q, r⟩ => ⟨v, H', hq _ _ q, r⟩) fun x s' ⟨v, H', q, r⟩ => ⟨v, H', hr _ _ q, r⟩
theorem IfsW.conseq {e} {Q' : Bool → Hp → Prop} {R' : V → Hp → Prop} (h : IfsW C k env e Q' R' ρ H) (hq : ∀ v H, Q' v H → QB v H) (hr : ∀ v H, R' v H → R v H) : IfsW C k env e QB R ρ H := fun A a s S =>
  wpAny_mono (h A a s S) (fun x s' ⟨v, H', q, r⟩ => ⟨v, H', hq _ _ q, r⟩) fun x s' ⟨v, H', q, r⟩ => ⟨v, H', hr _ _ q, r⟩

theorem pure_inv {x p elt ifs scope} {H₁ : Hp} {items : List V} (g : V → Option V) (hx : compVar env scope x = true) (hlen : items.length ≤ 1000)
    (hst : ∀ v ∈ items, ∀ H', Hp.le H₁ H' → PureStep C k env x elt ifs scope ρ g H' v) :
    CompInv C k env elt (.Name x p) ifs scope ρ (fun D r acc H => ∃ done, items = done ++ r ∧ acc = done.filterMap g ∧ H₁ D = none ∧ H = H₁.set D (.list acc)) := by
  constructor
  · rintro D r acc H ⟨done, e1, e2, e3, e4⟩
    refine ⟨by rw [e4, Hp.set_self], ?_⟩
    have : (done.filterMap g).length ≤ done.length := List.length_filterMap_le ..
    have h2 : items.length = done.length + r.length := by rw [e1]; simp
    rw [e2]; omega
  · rintro L D v r acc H ⟨done, e1, e2, e3, rfl⟩
    refine AssignL.name (compVar.kind hx L) ⟨Rho.le_hide (compVar.hide hx), ?_⟩
    refine (hst v (by rw [e1]; simp) (H₁.set D (.list acc)) (Hp.le_set e3) L).conseq ?_ (fun _ _ h => h)
    rintro b H₂ ⟨rfl, hb⟩
    cases b
    · simp only [Bool.false_eq_true, if_false] at hb ⊢
      exact ⟨done ++ [v], by rw [e1]; simp, by rw [e2]; simp [hb], e3, by trivial⟩
    · simp only [if_true] at hb ⊢
      refine hb.conseq ?_ (fun _ _ h => h)
      rintro u H₃ ⟨rfl, hg⟩
      refine ⟨Hp.set_self .., done ++ [v], by rw [e1]; simp, by rw [e2]; simp [hg], e3, ?_⟩
      rw [Hp.set_set]

theorem fz_new {D : Addr} {acc : List V} (hD : H D = none) : Fz (H.set D (.list acc)) (.ref D) (.lst acc) H := by
  refine Fz.of (D := fun a => a = D) (.thaw rfl (Hp.set_self ..) (FzRL_refl acc)) (Hp.le_set hD) ?_
  rintro a rfl; exact hD
where FzRL_refl {H : Hp} {D : Addr → Prop} : ∀ l : List V, FzRL H D l l
  | [] => .nil
  | v :: l => .cons (.refl v) (FzRL_refl l)

/-- ends in a frozen list -/
theorem EvalW.compP {x p elt iter ifs scope pos} (g : V → Option V) (cs : compOk env scope = true) (hd : C.hd = true) (hx : compVar env scope x = true)
    (h : IterE C k env false iter (fun items cond H₁ => items.length ≤ 1000 ∧ (∀ H', Hp.le H₁ H' → cond H') ∧ (∀ v ∈ items, ∀ H', Hp.le H₁ H' → PureStep C k env x elt ifs scope ρ g H' v) ∧ Q (.lst (items.filterMap g)) H₁) R ρ H)
    (hs : ∀ x, foldedSetIterable iter env x = pure x := by intro _; rfl) :
    EvalW C k env (.ListComp elt [⟨.Name x p, iter, ifs, 0⟩] scope pos) Q R ρ H := by
  refine EvalW.comp false cs hd (fun e => by cases e) ?_ hs
  intro A a s S P PE hPE hP
  refine h A a s S P PE hPE ?_
  rintro I wr St items cond H₂ s₂ ⟨h1, h2, h3, h4⟩
  refine hP I wr St items cond H₂ s₂ ⟨_, pure_inv g hx h1 h3, fun D hD => ⟨[], rfl, rfl, hD, rfl⟩, ?_, ?_⟩
  · rintro D r acc H ⟨done, _, _, e3, rfl⟩; exact h2 _ (Hp.le_set e3)
  · rintro D acc H' ⟨done, e1, e2, e3, rfl⟩
    refine ⟨_, _, fz_new e3, ?_⟩
    rw [List.append_nil] at e1
    rw [e2, ← e1]; exact h4
/-- ends in an owned list -/
theorem EvalW.compO {x p elt iter ifs scope pos} (g : V → Option V) (cs : compOk env scope = true) (hd : C.hd = true) (hx : compVar env scope x = true)
    (h : IterE C k env false iter (fun items cond H₁ => items.length ≤ 1000 ∧ (∀ H', Hp.le H₁ H' → cond H') ∧ (∀ v ∈ items, ∀ H', Hp.le H₁ H' → PureStep C k env x elt ifs scope ρ g H' v) ∧ ∀ D, H₁ D = Option.none → Q (.ref D) (H₁.set D (.list (items.filterMap g)))) R ρ H)
    (hs : ∀ x, foldedSetIterable iter env x = pure x := by intro _; rfl) :
    EvalW C k env (.ListComp elt [⟨.Name x p, iter, ifs, 0⟩] scope pos) Q R ρ H := by
  refine EvalW.comp false cs hd (fun e => by cases e) ?_ hs
  intro A a s S P PE hPE hP
  refine h A a s S P PE hPE ?_
  rintro I wr St items cond H₂ s₂ ⟨h1, h2, h3, h4⟩
  refine hP I wr St items cond H₂ s₂ ⟨_, pure_inv g hx h1 h3, fun D hD => ⟨[], rfl, rfl, hD, rfl⟩, ?_, ?_⟩
  · rintro D r acc H ⟨done, _, _, e3, rfl⟩; exact h2 _ (Hp.le_set e3)
  · rintro D acc H' ⟨done, e1, e2, e3, rfl⟩
    refine ⟨_, _, Fz.refl, ?_⟩
    rw [List.append_nil] at e1
    rw [e2, ← e1]; exact h4 D e3
theorem ExecW.assign_compP {y p' x p elt iter ifs scope cpos pos} (g : V → Option V) (hk : env.kindOf y = some .local) (cs : compOk env scope = true) (hd : C.hd = true) (hx : compVar env scope x = true)
    (h : IterE C k env false iter (fun items cond H₁ => items.length ≤ 1000 ∧ (∀ H', Hp.le H₁ H' → cond H') ∧ (∀ v ∈ items, ∀ H', Hp.le H₁ H' → PureStep C k env x elt ifs scope ρ g H' v) ∧ QS .next (ρ.set y (.lst (items.filterMap g))) H₁) (fun v H' => RS v ρ H') ρ H)
    (hsw : swapsWith (.ListComp elt [⟨.Name x p, iter, ifs, 0⟩] scope cpos) (some (.Name y p')) pos.line env = pure true := by rfl)
    (hs : ∀ x, foldedSetIterable iter env x = pure x := by intro _; rfl) :
    ExecW C k env (.Assign [.Name y p'] (.ListComp elt [⟨.Name x p, iter, ifs, 0⟩] scope cpos) pos) QS RS ρ H := by
  refine ExecW.assign_comp false hk cs hd (fun e => by cases e) ?_ hsw hs
  intro A a s S P PE hPE hP
  refine h A a s S P PE hPE ?_
  rintro I wr St items cond H₂ s₂ ⟨h1, h2, h3, h4⟩
  refine hP I wr St items cond H₂ s₂ ⟨_, pure_inv g hx h1 h3, fun D hD => ⟨[], rfl, rfl, hD, rfl⟩, ?_, ?_⟩
  · rintro D r acc H ⟨done, _, _, e3, rfl⟩; exact h2 _ (Hp.le_set e3)
  · rintro D acc H' ⟨done, e1, e2, e3, rfl⟩
    refine ⟨_, _, fz_new e3, ?_⟩
    rw [List.append_nil] at e1
    rw [e2, ← e1]; exact h4
theorem ExecW.assign_compO {y p' x p elt iter ifs scope cpos pos} (g : V → Option V) (hk : env.kindOf y = some .local) (cs : compOk env scope = true) (hd : C.hd = true) (hx : compVar env scope x = true)
    (h : IterE C k env false iter (fun items cond H₁ => items.length ≤ 1000 ∧ (∀ H', Hp.le H₁ H' → cond H') ∧ (∀ v ∈ items, ∀ H', Hp.le H₁ H' → PureStep C k env x elt ifs scope ρ g H' v) ∧ ∀ D, H₁ D = Option.none → QS .next (ρ.set y (.ref D)) (H₁.set D (.list (items.filterMap g)))) (fun v H' => RS v ρ H') ρ H)
    (hsw : swapsWith (.ListComp elt [⟨.Name x p, iter, ifs, 0⟩] scope cpos) (some (.Name y p')) pos.line env = pure true := by rfl)
    (hs : ∀ x, foldedSetIterable iter env x = pure x := by intro _; rfl) :
    ExecW C k env (.Assign [.Name y p'] (.ListComp elt [⟨.Name x p, iter, ifs, 0⟩] scope cpos) pos) QS RS ρ H := by
  refine ExecW.assign_comp false hk cs hd (fun e => by cases e) ?_ hsw hs
  intro A a s S P PE hPE hP
  refine h A a s S P PE hPE ?_
  rintro I wr St items cond H₂ s₂ ⟨h1, h2, h3, h4⟩
  refine hP I wr St items cond H₂ s₂ ⟨_, pure_inv g hx h1 h3, fun D hD => ⟨[], rfl, rfl, hD, rfl⟩, ?_, ?_⟩
  · rintro D r acc H ⟨done, _, _, e3, rfl⟩; exact h2 _ (Hp.le_set e3)
  · rintro D acc H' ⟨done, e1, e2, e3, rfl⟩
    refine ⟨_, _, Fz.refl, ?_⟩
    rw [List.append_nil] at e1
    rw [e2, ← e1]; exact h4 D e3
end Mine

set_option Elab.async false
set_option linter.unusedVariables false
namespace Mine
open PySem PySem.W PyProof.Rows

variable {C : Cx} {k : Nat} {env : Env} {ρ : Rho} {H : Hp} {Q R : V → Hp → Prop} {QB : Bool → Hp → Prop} {QS : Fl → Rho → Hp → Prop} {RS : V → Rho → Hp → Prop}

theorem ite_w {b : Bool} {A B : Prop} (h1 : b = true → A) (h2 : b = false → B) : if b = true then A else B := by
  cases b
  · simpa using h2 rfl
  · simpa using h1 rfl
theorem ite_t {b : Bool} {A B : Prop} (h : b = true) (h1 : A) : if b = true then A else B := by rw [if_pos h]; exact h1
theorem ite_f {b : Bool} {A B : Prop} (h : b = false) (h1 : B) : if b = true then A else B := by rw [if_neg (by rw [h]; decide)]; exact h1

/-- a loop that looks at each item and goes on, or gives an answer -/
def AllQ (ok : Prop) (l0 : List (Str × V)) (H₁ : Hp) (Rt : V → Rho → Hp → Prop) : Fl → Rho → Hp → Prop
  | .next, ρ, H => ok ∧ H = H₁ ∧ Rho.sat l0 ρ
  | .cont, ρ, H => ok ∧ H = H₁ ∧ Rho.sat l0 ρ
  | .brk, _, _ => False
  | .ret u, ρ, H => Rt u ρ H

theorem ExecW.for_all {target iter body pos} (tup : Bool) (hd : C.hd = true) (ht : IsTupleE tup target) (l0 : List (Str × V)) (hl : Rho.sat l0 ρ)
    (h : IterE C k env tup iter (fun items cond H₁ => ∃ p : Nat → Prop, (cond H₁) ∧
      (∀ (i : Nat) v, items[i]? = some v → (∀ j, j < i → p j) → AssignW C k env target v (fun ρ' => ExecsW C k env body (AllQ (p i) l0 H₁ (fun u ρ'' H'' => QS (.ret u) ρ'' H'')) (fun _ _ _ => False) ρ' H₁) (Rho.of l0) H₁) ∧
      ((∀ j, j < items.length → p j) → QS .next (Rho.of l0) H₁)) (fun v H' => RS v ρ H') ρ H)
    (hs : ∀ x, foldedSetIterable iter env x = pure x := by intro _; rfl) : ExecW C k env (.For target iter body [] pos) QS RS ρ H := by
  refine ExecW.for_in tup hd ht ?_ hs
  intro A a s S P PE hPE hP
  refine h A a s S P PE hPE ?_
  rintro I wr St items cond H₁ s₂ ⟨p, hc, step, fin⟩
  refine hP I wr St items cond H₁ s₂ ⟨fun r l H => l = l0 ∧ H = H₁ ∧ ∃ i, r = items.drop i ∧ i ≤ items.length ∧ ∀ j, j < i → p j, ⟨l0, ⟨rfl, rfl, 0, rfl, Nat.zero_le _, fun j hj => absurd hj (Nat.not_lt_zero j)⟩, hl⟩, ?_, ?_, ?_⟩
  · rintro r l H ⟨rfl, rfl, _⟩; exact hc
  · rintro v r l H ⟨rfl, rfl, i, e, hi, hp⟩
    have hv : items[i]? = some v := by
      have := congrArg List.head? e
      simpa [List.head?_drop] using this.symm
    have hlt : i < items.length := (List.getElem?_eq_some_iff.mp hv).1
    have hr : r = items.drop (i + 1) := by
      have := congrArg List.tail e
      simpa [List.tail_drop] using this
    refine (step i v hv hp).conseq fun ρ' hb => hb.conseq fun fl ρ₁ H₁ q => ⟨ρ₁, Rho.le_refl _, ?_⟩
    have nx : ∀ {ρ₁ : Rho} {H₂ : Hp}, p i ∧ H₂ = H ∧ Rho.sat l ρ₁ → ∃ l', (l' = l ∧ H₂ = H ∧ ∃ i, r = items.drop i ∧ i ≤ items.length ∧ ∀ j, j < i → p j) ∧ Rho.sat l' ρ₁ := by
      rintro ρ₁ H₂ ⟨a, rfl, c⟩
      refine ⟨l, ⟨rfl, rfl, i + 1, hr, hlt, fun j hj => ?_⟩, c⟩
      by_cases q : j = i
      · rw [q]; exact a
      · exact hp j (by omega)
    cases fl with
    | next => exact nx q
    | cont => exact nx q
    | brk => exact q.elim
    | ret u => exact q
  · rintro l H ⟨rfl, rfl, i, e, hi, hp⟩
    have hle : items.length ≤ i := by
      have := congrArg List.length e
      simp at this; omega
    exact fin fun j hj => hp j (by omega)

theorem Hp.le_set' {H₀ H : Hp} {a : Addr} {o : O} (h : Hp.le H₀ H) (ha : H₀ a = Option.none) : Hp.le H₀ (H.set a o) := fun b ob e => by
  unfold Hp.set; split
  · rename_i q; subst q; rw [ha] at e; cases e
  · exact h b ob e
theorem fz_own {H₀ H : Hp} {a : Addr} {l : List V} (ha : H a = some (.list l)) (h : Hp.le H₀ H) (h0 : H₀ a = Option.none) : Fz H (.ref a) (.lst l) H₀ := by
  refine Fz.of (D := fun b => b = a) (.thaw rfl ha (fz_new.FzRL_refl l)) h ?_
  rintro b rfl; exact h0
end Mine
namespace Mine
open PySem PySem.W PyProof.Rows
variable {C : Cx} {k : Nat} {env : Env} {ρ : Rho} {H : Hp} {Q R : V → Hp → Prop} {QB : Bool → Hp → Prop} {QS : Fl → Rho → Hp → Prop} {RS : V → Rho → Hp → Prop}
theorem Cont.next {rest} (h : ExecsW C k env rest QS RS ρ H) : Cont C k env rest QS RS .next ρ H := h
theorem Cont.ret {rest v} (h : QS (.ret v) ρ H) : Cont C k env rest QS RS (.ret v) ρ H := h
theorem RetQ.here {v} (h : Q v H) : RetQ Q (.ret v) ρ H := ⟨_, _, Fz.refl, h⟩
theorem RetQ.fz {v v' H'} (f : Fz H v v' H') (h : Q v' H') : RetQ Q (.ret v) ρ H := ⟨_, _, f, h⟩
end Mine
namespace Mine
open PySem PySem.W PyProof.Rows
variable {C : Cx} {k : Nat} {env : Env} {ρ : Rho} {H : Hp} {Q R : V → Hp → Prop} {QB : Bool → Hp → Prop} {QS : Fl → Rho → Hp → Prop} {RS : V → Rho → Hp → Prop}
theorem drop_cons {items : List V} {v : V} {r : List V} {i : Nat} (e : v :: r = items.drop i) : items[i]? = some v ∧ r = items.drop (i + 1) ∧ i < items.length := by
  have hv : items[i]? = some v := by
    have := congrArg List.head? e
    simpa [List.head?_drop] using this.symm
  refine ⟨hv, ?_, (List.getElem?_eq_some_iff.mp hv).1⟩
  have := congrArg List.tail e
  simpa [List.tail_drop] using this
theorem drop_nil {items : List V} {i : Nat} (e : [] = items.drop i) : items.length ≤ i := by
  have := congrArg List.length e
  simp at this; omega
theorem PureStep.map {x elt scope} {g : V → Option V} {v : V} {ρ' : Rho} (hρ : ρ' = (Rho.hide scope ρ).set x v) (h : ∀ L, EvalW C k (cenvOf env scope L) elt (fun u H₃ => H₃ = H ∧ g v = some u) (fun _ _ => False) ρ' H) : PureStep C k env x elt [] scope ρ g H v :=
  fun L => IfsW.nil ⟨rfl, by simpa using hρ ▸ h L⟩
theorem PureStep.filt {x elt c scope} {g : V → Option V} {v : V} {ρ' : Rho} (hρ : ρ' = (Rho.hide scope ρ).set x v) (h : ∀ L, TestW C k (cenvOf env scope L) c (fun b H₂ => H₂ = H ∧ if b = true then EvalW C k (cenvOf env scope L) elt (fun u H₃ => H₃ = H ∧ g v = some u) (fun _ _ => False) ρ' H else g v = Option.none) (fun _ _ => False) ρ' H) : PureStep C k env x elt [c] scope ρ g H v :=
  fun L => IfsW.one (hρ ▸ h L)
end Mine
namespace Mine
open PySem PySem.W PyProof.Rows
theorem Storable.l {env : Env} {x : Str} (h : env.kindOf x = some .local) : Storable env x := Or.inl h
theorem Storable.c {env : Env} {x : Str} (h : env.kindOf x = some .cell) (h' : (env.cells.lookup x).isSome = true) : Storable env x := Or.inr ⟨h, h'⟩
end Mine
namespace Mine
open PySem PySem.W PyProof.Rows
variable {C : Cx} {k : Nat} {env : Env} {ρ : Rho} {H : Hp} {Q R : V → Hp → Prop} {QB : Bool → Hp → Prop} {QS : Fl → Rho → Hp → Prop} {RS : V → Rho → Hp → Prop} {QL : List V → Hp → Prop}
theorem gE {e} (h : EvalW C k env e Q R ρ H) : EvalW C k env e Q R ρ H := h
theorem gName {x p} (h : EvalW C k env (.Name x p) Q R ρ H) : EvalW C k env (.Name x p) Q R ρ H := h
theorem gConst {x c p} (h : EvalW C k env (.Constant x c p) Q R ρ H) : EvalW C k env (.Constant x c p) Q R ρ H := h
theorem gCall {f a b p} (h : EvalW C k env (.Call f a b p) Q R ρ H) : EvalW C k env (.Call f a b p) Q R ρ H := h
theorem gT {e} (h : TestW C k env e QB R ρ H) : TestW C k env e QB R ρ H := h
theorem gS {e} (h : ExecW C k env e QS RS ρ H) : ExecW C k env e QS RS ρ H := h
theorem gX {e} (h : ExecsW C k env e QS RS ρ H) : ExecsW C k env e QS RS ρ H := h
theorem gA {e} (h : ArgsW C k env e QL R ρ H) : ArgsW C k env e QL R ρ H := h
theorem gB {o v w} (h : BinW C k o v w Q R H) : BinW C k o v w Q R H := h
theorem gC {o v w} (h : CmpW C k o v w Q R H) : CmpW C k o v w Q R H := h
end Mine

set_option Elab.async false
set_option linter.unusedVariables false
set_option maxRecDepth 100000
namespace Mine
open PySem PySem.W PyProof.Rows

section
variable {prog : Program} {w : World} {A : Around} {E : Value → Shared → Prop} {s : Shared}

theorem slot_lri_hint : Slot "list_reverseiterator" "__length_hint__" "list_reverseiterator.__length_hint__" :=
  .of (owner := "list_reverseiterator") (n := "__length_hint__") (by rw [typeLookup_type, builtinLookup_eq_fast]; kernel_rfl) (by decide +kernel) (by decide +kernel) (by decide +kernel)
    (by first | exact .inl (by decide +kernel) | exact .inr (by decide +kernel)) (by rw [isSubtype_type]; kernel_rfl)
theorem lookup_lri_len : typeLookup (.type "list_reverseiterator") "__len__" = pure none := by rw [typeLookup_type, builtinLookup_eq_fast]; kernel_rfl

theorem hint_rev {I l : Addr} {i : Int} {Q : Bool → Shared → Prop} (hit : s.heap.IsRevIter I l i) (h : Q false s) : wpAny (model prog w) A (Builtin.List.listLengthHint (.ref I)) Q E s := by
  unfold Builtin.List.listLengthHint
  refine wpAny_bind (wpAny_specialOf hit.typeIs lookup_lri_len ?_)
  refine wpAny_ite_split (fun hab => absurd hab (by decide)) (fun _ => ?_)
  refine wpAny_ite_split (fun hab => absurd hab (by decide)) (fun _ => ?_)
  refine wpAny_bind (wpAny_specialOf hit.typeIs slot_lri_hint.lookup ?_)
  generalize hid : ("list_reverseiterator.__length_hint__" : String) = id0
  wp_delta
  rw [show splitId id0 = some ("list_reverseiterator", "__length_hint__") from by subst hid; decide +kernel]
  subst hid
  refine wpAny_bind (wpAny_isInstance (T := "list_reverseiterator") (b := true) hit.typeIs (by rw [isSubtype_type]; kernel_rfl) ?_)
  refine wpAny_ite_split (fun hab => absurd hab (by decide)) (fun _ => ?_)
  refine wpAny_ite_split (fun _ => ?_) (fun hab => absurd (by decide +kernel) hab)
  refine wpAny_ite_split (fun hab => absurd hab (by decide +kernel)) (fun _ => wpAny_pure h)

theorem extend_rev {R : Result → Shared → Prop} {I l : Addr} {items : Array Value} (hh : A.handled = none) (hit : s.heap.IsRevIter I l ((items.size : Int) - 1)) (hl : s.heap.IsList l items) (hlen : items.size ≤ 2 ^ 20) (S : Addr) (res : Value) (c₀ : Nat)
    (hS : s.heap.get? S = some { cls := .type "list", data := .seq #[] c₀ }) (hSl : S ≠ l) (hIl : l ≠ I)
    (hR : ∀ h' tk acc' c', (∀ b o, b ≠ S → b ≠ I → s.heap.get? b = some o → h'.get? b = some o) → h'.get? S = some { cls := .type "list", dict := none, data := .seq acc' c', slots := #[] } →
      ItemsOf (fun i v => items[items.size - 1 - i]? = some v) acc' items.size → R (.ok (.ret res)) { s with heap := h', toks := tk }) :
    wpAny (model prog w) A.in1 (Builtin.List.listExtendWith (.ref S) (.ref I) res)
      (fun fin s' => match fin with | .done f => R (.ok f) s' | .again c' => c'.quiet = true ∧ codeAny (model prog w) A c' R s') (fun e s' => R (.error e) s') s := by
  have hSI : S ≠ I := fun e => by obtain ⟨o, ho, hc, _⟩ := hit; rw [e, ho] at hS; cases hS; simp at hc
  have hSf : S ∉ [I, l] := fun hm => by simp at hm; rcases hm with e | e; exact hSI e; exact hSl e
  have W := (Walks.listRev (prog := prog) (w := w) (A := A.in1) hh I l hIl items).toS
  unfold Builtin.List.listExtendWith
  refine wpAny_bind (wpAny_typeOf hit.typeIs ?_)
  have h1 : Builtin.List.listSameRef (.ref S) (.ref I) = false := by simp [Builtin.List.listSameRef, hSI]
  have h2 : (Value.type "list_reverseiterator" == Value.type "list") = false := by decide
  have h3 : (Value.type "list_reverseiterator" == Value.type "tuple") = false := by decide
  simp only [h1, h2, h3, Bool.or_false, Bool.false_eq_true, if_false]
  refine wpAny_bind (wpAny_pyIter_revIter hit ?_)
  refine wpAny_bind (wpAny_holding (hint_rev hit ?_))
  refine wpAny_ite_split (fun hab => ?_) (fun _ => ?_)
  · exact absurd hab (by decide +kernel)
  · refine wpAny_pure ⟨plainId_quiet F.plain_extend_loop _, ?_⟩
    have e0 : (items.size : Int) - 1 - ((0 : Nat) : Int) = (items.size : Int) - 1 := by omega
    refine codeAny_extend_loopS W (by rw [sizeLine_eq]; omega) S hSf res items.size 0 _ #[] c₀ rfl (Nat.zero_le _) ⟨Nat.zero_le _, by rw [e0]; exact hit, hl⟩ hS (ItemsOf.nil _) fun s' acc' c' hm hS' hacc => ?_
    rw [PySem.Moved.eq_with hm]
    refine hR s'.heap s'.toks acc' c' (fun b o hb hbI e => hm.heap b o (fun hmem => ?_) e) hS' hacc
    rcases List.mem_cons.mp hmem with e' | hmem
    · exact hb e'
    · exact hbI (List.mem_singleton.mp hmem)

theorem list_init_rev {R : Result → Shared → Prop} {I l : Addr} {items : Array Value} (hh : A.handled = none) (hit : s.heap.IsRevIter I l ((items.size : Int) - 1)) (hl : s.heap.IsList l items) (hlen : items.size ≤ 2 ^ 20) (S : Addr)
    (hS : s.heap.get? S = some { cls := .type "list", data := .seq #[] }) (hSl : S ≠ l) (hIl : l ≠ I)
    (hR : ∀ h' tk acc' c', (∀ b o, b ≠ S → b ≠ I → s.heap.get? b = some o → h'.get? b = some o) → h'.get? S = some { cls := .type "list", dict := none, data := .seq acc' c', slots := #[] } →
      ItemsOf (fun i v => items[items.size - 1 - i]? = some v) acc' items.size → R (.ok (.ret .none)) { s with heap := h', toks := tk }) :
    wpAny (model prog w) A.in1 (Builtin.«list.__init__» ⟨[.ref S, .ref I], []⟩)
      (fun fin s' => match fin with | .done f => R (.ok f) s' | .again c' => c'.quiet = true ∧ codeAny (model prog w) A c' R s') (fun e s' => R (.error e) s') s := by
  have hSI : S ≠ I := fun e => by obtain ⟨o, ho, hc, _⟩ := hit; rw [e, ho] at hS; cases hS; simp at hc
  show wpAny _ _ (do let old ← Builtin.List.listItems (.ref S); Builtin.List.listUpdate (.ref S) (fun _ => #[]); letGo old.toList.reverse; Builtin.List.listExtendWith (.ref S) (.ref I) .none) _ _ s
  refine wpAny_bind ?_
  unfold Builtin.List.listItems
  refine wpAny_bind (wpAny_seqItems hS rfl (wpAny_pure ?_))
  show wpAny _ _ (updateSeq S (fun _ => #[]) >>= fun _ => letGo (#[] : Array Value).toList.reverse >>= fun _ => Builtin.List.listExtendWith (.ref S) (.ref I) .none) _ _ s
  refine wpAny_bind (wpAny_updateSeq hS rfl ?_)
  have hS₂ := Heap.get?_update_self (Obj.mapSeq (fun _ => (#[] : Array Value))) hS rfl
  have oth : ∀ b o, b ≠ S → s.heap.get? b = some o → (s.heap.update S (Obj.mapSeq (fun _ => (#[] : Array Value)))).get? b = some o :=
    fun b o hb e => (Heap.get?_update_other _ _ (Ne.symm hb)).trans e
  refine wpAny_bind (wpAny_letGo ?_)
  refine extend_rev hh (hit.at fun o e => oth I o (Ne.symm hSI) e) (hl.at fun o e => oth l o (Ne.symm hSl) e) hlen S .none _ hS₂ hSl hIl fun h' tk acc' c' hk hS' hacc => ?_
  exact hR h' tk acc' c' (fun b o hb hbI e => hk b o hb hbI (oth b o hb e)) hS' hacc

theorem call_list_rev {Q : Value → Shared → Prop} {I l : Addr} {items : Array Value} (hh : A.handled = none) (hit : s.heap.IsRevIter I l ((items.size : Int) - 1)) (hl : s.heap.IsList l items) (hlen : items.size ≤ 2 ^ 20) (hIl : l ≠ I)
    (hQ : ∀ h' tk acc' c', (∀ b o, b ≠ I → s.heap.get? b = some o → h'.get? b = some o) →
      h'.get? s.heap.objs.size = some { cls := .type "list", dict := none, data := .seq acc' c', slots := #[] } → ItemsOf (fun i v => items[items.size - 1 - i]? = some v) acc' items.size → Q (.ref s.heap.objs.size) { s with heap := h', toks := tk }) :
    wpAny (model prog w) A (call (.type "list") [.ref I]) Q E s := by
  refine callType_codes (Q₁ := fun obj s₁ => obj = .ref s.heap.objs.size ∧ s₁ = { s with heap := s.heap.push { cls := .type "list", data := .seq #[] } }) F.called_list (F.typeCall_list_1 _) F.entry_list_init
    (code_list_new _ ⟨rfl, rfl⟩) fun obj s₁ h₁ => ?_
  obtain ⟨rfl, rfl⟩ := h₁
  have hS : (s.heap.push { cls := .type "list", data := .seq #[] }).get? s.heap.objs.size = some { cls := .type "list", data := .seq #[] } := Heap.get?_push_size _ rfl
  have hSl : s.heap.objs.size ≠ l := fun e => by obtain ⟨o, ho, _⟩ := hl; exact absurd (Heap.lt_size ho) (by rw [e]; exact Nat.lt_irrefl _)
  refine ⟨⟨_, hS, rfl⟩, F.args_list_init_2 _ _, list_init_rev (A := A.in1) hh (hit.at fun o e => Heap.get?_push_of_some _ e) (hl.at fun o e => Heap.get?_push_of_some _ e) hlen _ hS hSl hIl fun h' tk acc' c' hk hS' hacc => ?_⟩
  exact ⟨rfl, hQ h' tk acc' c' (fun b o hbI e => hk b o (Nat.ne_of_lt (Heap.lt_size e)) hbI (Heap.get?_push_of_some _ e)) hS' hacc⟩
end

variable {C : Cx} {k : Nat} {env : Env} {ρ : Rho} {H : Hp} {Q R : V → Hp → Prop}
/-- a new owned object, anywhere past the end -/
theorem Sim.allocAt {C : Cx} {H : Hp} {s s' : Shared} {o : O} {d : Addr} (hd : s.heap.objs.size ≤ d) (S : Sim C H s) (hk : ∀ a o, s.heap.get? a = some o → s'.heap.get? a = some o) (hg : s'.gens = s.gens) (ho : s'.os = s.os)
    (hr : ORel C s'.heap (H.set d o) d o) : Sim C (H.set d o) s' ∧ Ext H s.heap (H.set d o) s'.heap := by
  have E : Ext H s.heap (H.set d o) s'.heap := by
    refine ⟨fun a ob e _ => hk a ob e, fun a ob e n => ?_, fun a ob e => ⟨ob, hk a ob e⟩⟩
    unfold Hp.set
    rw [if_neg (fun q => by have := Heap.lt_size e; rw [q] at this; exact absurd this (Nat.not_lt.mpr hd))]; exact n
  refine ⟨⟨fun a o e => hk a o (S.keep a o e), hg.trans S.gens, ho.trans S.os, fun a o' e => ?_, fun a e => ?_⟩, E⟩
  · unfold Hp.set at e
    split at e
    · rename_i q; subst q; cases e; exact hr
    · have r := S.objs a o' e
      obtain ⟨ob', e'⟩ := r.lt
      exact r.same E.v ((hk a ob' e').trans e'.symm)
  · unfold Hp.set at e
    split at e
    · rename_i q; subst q; exact ⟨S.freshB hd, S.freshS hd⟩
    · exact S.new a e
theorem newAtAny_W {s s' : Shared} {l : List V} {xs : Array Value} {d : Addr} (hd : s.heap.objs.size ≤ d) (S : Sim C H s) (hk : ∀ b o, s.heap.get? b = some o → s'.heap.get? b = some o) (hl : s'.heap.PlainList d xs) (r : VRelL s.heap H l xs.toList) (hg : s'.gens = s.gens) (ho : s'.os = s.os)
    (h : ∀ a, H a = Option.none → Q (.ref a) (H.set a (.list l))) : Post C H s.heap VRel Q (.ref d) s' := by
  have E0 : Ext H s.heap (H.set d (.list l)) s'.heap :=
    ⟨fun a ob e _ => hk a ob e, fun a ob e n => by unfold Hp.set; rw [if_neg (fun q => by have := Heap.lt_size e; rw [q] at this; exact absurd this (Nat.not_lt.mpr hd))]; exact n, fun a ob e => ⟨ob, hk a ob e⟩⟩
  obtain ⟨S', E'⟩ := S.allocAt hd hk hg ho (o := .list l) ⟨xs, hl, r.ext E0⟩
  exact ⟨_, _, h _ (S.fresh hd), S', .ref _, E'⟩
theorem items_rev {items acc : Array Value} (h : ItemsOf (fun i v => items[items.size - 1 - i]? = some v) acc items.size) : acc.toList = items.toList.reverse := by
  apply List.ext_getElem?
  intro i
  by_cases hi : i < items.size
  · have ha : i < acc.size := by rw [h.1]; exact hi
    have e1 : acc[i]? = some acc[i] := Array.getElem?_eq_getElem ha
    have e2 := h.2 i _ e1
    rw [List.getElem?_reverse (by simpa using hi)]
    simp only [Array.getElem?_toList, Array.length_toList]
    rw [e1, e2]
  · rw [List.getElem?_eq_none (by simp [h.1]; omega), List.getElem?_eq_none (by simp; omega)]
/-- list(reversed(xs)) -/
theorem EvalW.listReversed {x p y p' e pos pos'} (hd : C.hd = true) (g : GlobalV C x (.con (.type "list"))) (hk : env.kindOf x = some .globalImplicit) (g' : GlobalV C y (.con (.type "reversed"))) (hk' : env.kindOf y = some .globalImplicit)
    (h : EvalW C k env e (fun v H₁ => ∃ l, lview H₁ v = some l ∧ l.length ≤ 1000 ∧ ∀ a, H₁ a = Option.none → Q (.ref a) (H₁.set a (.list l.reverse))) R ρ H)
    (he : starEach [e] env = [(false, eval e env)] := by rfl) (he' : starEach [.Call (.Name y p') [e] [] pos'] env = [(false, eval (.Call (.Name y p') [e] [] pos') env)] := by rfl)
    (hx : (x == ("__debug__" : Str)) = false := by decide) (hy : (y == ("__debug__" : Str)) = false := by decide) :
    EvalW C k env (.Call (.Name x p) [.Call (.Name y p') [e] [] pos'] [] pos) Q R ρ H := fun A a s S => by
  have G := EvalW.global (k := k) (env := env) (ρ := ρ) (H := H) (R := R) (p := p) (Q := fun v H' => v = .con (.type "list") ∧ H' = H) g ⟨rfl, rfl⟩ hk hx
  refine wpAny_Call_NameR (wp_go (G A a s S) (fun f v H₁ s₁ hv S₁ r₁ E₁ => ?_))
  obtain ⟨rfl, rfl⟩ := hv
  have hf : f = .type "list" := by cases r₁; rfl
  subst hf
  rw [he']
  refine PySem.callWith_type rfl (Calls.evalArgs_plain (Calls.spliced_cons ?_))
  have S1 := S.ext S₁ E₁
  have G' := EvalW.global (k := k) (env := env) (ρ := ρ) (H := H₁) (R := R) (p := p') (Q := fun v H' => v = .con (.type "reversed") ∧ H' = H₁) g' ⟨rfl, rfl⟩ hk' hy
  refine wpAny_Call_NameR (wp_go (G' A a s₁ S1) (fun f v H₂ s₂ hv S₂ r₂ E₂ => ?_) fun _ _ p => p.after E₁)
  obtain ⟨rfl, rfl⟩ := hv
  have hf : f = .type "reversed" := by cases r₂; rfl
  subst hf
  rw [he]
  have E12 := E₁.trans E₂
  refine PySem.callWith_type rfl (Calls.evalArgs_plain (Calls.spliced_cons (wp_go (h A a s₂ (S1.ext S₂ E₂)) (fun z v H₃ s₃ hv S₃ r₃ E₃ => Calls.spliced_nil ?_) fun _ _ p => p.after E12)))
  obtain ⟨l, hl, hlen, hQ⟩ := hv
  obtain ⟨ad, xs, rfl, hL, rl⟩ := lview_list hl S₃ r₃
  have hz : xs.size = l.length := by have := rl.length; simpa using this
  refine call_reversed_list hL (Calls.spliced_nil ?_)
  have hk3 : ∀ b o, s₃.heap.get? b = some o → (s₃.heap.push (revObj ad ((xs.size : Int) - 1))).get? b = some o := fun b o e => Heap.get?_push_of_some _ e
  have hne : ad ≠ s₃.heap.objs.size := fun e => by obtain ⟨o, ho, _⟩ := hL; exact absurd (Heap.lt_size ho) (by rw [e]; exact Nat.lt_irrefl _)
  refine call_list_rev (items := xs) (l := ad) (a.handled hd) ⟨_, Heap.get?_push_size _ rfl, rfl, rfl⟩ (hL.at fun o e => hk3 _ _ e) (by rw [hz]; omega) hne fun h' tk acc' c' hk4 hS' hacc => ?_
  have hz4 : (s₃.heap.push (revObj ad ((xs.size : Int) - 1))).objs.size = s₃.heap.objs.size + 1 := Heap.size_push ..
  have fin := newAtAny_W (Q := Q) (H := H₃) (s := s₃) (s' := { s₃ with heap := h', toks := tk }) (l := l.reverse) (xs := acc') (d := (s₃.heap.push (revObj ad ((xs.size : Int) - 1))).objs.size) (by rw [hz4]; omega) S₃
    (fun b o e => hk4 b o (Nat.ne_of_lt (Heap.lt_size e)) (hk3 b o e)) ⟨c', hS'⟩ (by rw [items_rev hacc]; exact rl.reverse) rfl rfl hQ
  exact fin.after (E12.trans E₃)
end Mine

set_option Elab.async false
set_option linter.unusedVariables false
namespace Mine
open PySem PySem.W PyProof.Rows

variable {C : Cx} {k : Nat} {env : Env} {ρ : Rho} {H : Hp} {Q R : V → Hp → Prop}

def PartV : Option Int → V
  | none => .none
  | some i => .int i
/-- a bound of a slice -/
def PartW (C : Cx) (k : Nat) (env : Env) (e : Option Expr) (Q : Option Int → Hp → Prop) (R : V → Hp → Prop) (ρ : Rho) (H : Hp) : Prop :=
  ∀ A, Lv C k A → ∀ s, SimL C env ρ H s → wpAny C.M A (evalPart e env) (Post C H s.heap (fun h H v x => VRel h H (PartV v) x) Q) (Post C H s.heap VRel R) s
theorem PartW.none {Q : Option Int → Hp → Prop} (h : Q none H) : PartW C k env Option.none Q R ρ H := fun A a s S => wpAny_pure (Post.here h S.sim .none rfl)
theorem PartW.some {e} {Q : Option Int → Hp → Prop} (h : EvalW C k env e (fun v H' => ∃ i, v = .int i ∧ Q (Option.some i) H') R ρ H) : PartW C k env (Option.some e) Q R ρ H := fun A a s S =>
  wpAny_mono (h A a s S) (fun x s' ⟨v, H', ⟨i, e, q⟩, S', r, E⟩ => ⟨Option.some i, H', q, S', by subst e; exact r, E⟩) fun _ _ p => p
theorem part_is {h : Heap} {o : Option Int} {x : Value} (r : VRel h H (PartV o) x) : IsPart x o := by
  cases o <;> cases r
  · exact .none
  · exact .int _ _

def pickV {α : Type} (l : List α) (lo hi : Option Int) : List α := (l.drop (lo.elim 0 (clipAt l.length))).take (hi.elim l.length (clipAt l.length) - lo.elim 0 (clipAt l.length))
theorem pickV_map {α β : Type} (f : α → β) (l : List α) (lo hi) : pickV (l.map f) lo hi = (pickV l lo hi).map f := by
  simp [pickV, List.map_take, List.map_drop]
theorem pickV_to {α : Type} (l : List α) (n : Nat) : pickV l Option.none (Option.some (n : Int)) = l.take n := by
  simp only [pickV, Option.elim, clipAt_nat, List.drop_zero, Nat.sub_zero]
  rcases Nat.le_total n l.length with h | h
  · rw [Nat.min_eq_left h]
  · rw [Nat.min_eq_right h, List.take_of_length_le (Nat.le_refl _), List.take_of_length_le h]
theorem pickV_from {α : Type} (l : List α) (n : Nat) : pickV l (Option.some (n : Int)) Option.none = l.drop n := by
  simp only [pickV, Option.elim, clipAt_nat]
  rcases Nat.le_total n l.length with h | h
  · rw [Nat.min_eq_left h, List.take_of_length_le (by simp)]
  · rw [Nat.min_eq_right h, List.drop_of_length_le (Nat.le_refl _), List.drop_of_length_le h]; simp
theorem pickV_mem {α : Type} {l : List α} {lo hi} {x : α} (h : x ∈ pickV l lo hi) : x ∈ l := List.mem_of_mem_drop (List.mem_of_mem_take h)
theorem pickV_len {α : Type} (l : List α) (lo hi) : (pickV l lo hi).length ≤ l.length := by
  unfold pickV; rw [List.length_take, List.length_drop]; omega

theorem EvalW.sliceL {value lower upper p pos} (h : EvalW C k env value (fun v H₁ => PartW C k env lower (fun lo H₂ => PartW C k env upper (fun hi H₃ => ∃ l, lview H₃ v = Option.some l ∧ l.length ≤ 100000 ∧
      ∀ a, H₃ a = Option.none → Q (.ref a) (H₃.set a (.list (pickV l lo hi)))) R ρ H₂) R ρ H₁) R ρ H)
    (ht : ∀ o r, letTemporaryGo value o r = pure () := by intro _ _; rfl) : EvalW C k env (.Subscript value (.Slice lower upper Option.none p) pos) Q R ρ H := fun A a s S => by
  refine wpAny_Subscript_Slice list_getitem_lookup (wp_go (h A a s S) fun x v H₁ s₁ h₁ S₁ r₁ E₁ => ?_) ht
  refine wpAny_Slice ?_
  refine wp_go (h₁ A a s₁ (S.ext S₁ E₁)) (fun y lo H₂ s₂ h₂ S₂ r₂ E₂ => ?_) fun _ _ p => p.after E₁
  have E12 := E₁.trans E₂
  refine wp_go (h₂ A a s₂ (S.ext S₂ E12)) (fun z hi H₃ s₃ h₃ S₃ r₃ E₃ => ?_) fun _ _ p => p.after E12
  obtain ⟨l, hl, hn, hQ⟩ := h₃
  obtain ⟨ad, xs, rfl, hL, rl⟩ := lview_list hl S₃ (r₁.ext (E₂.trans E₃))
  have hz : xs.size = l.length := by have := rl.length; simpa using this
  refine wpAny_pure ?_
  have hk : ∀ b o, s₃.heap.get? b = Option.some o → (s₃.heap.push { cls := .type "slice", data := .fields #[y, z, .none] }).get? b = Option.some o := fun b o e => Heap.get?_push_of_some _ e
  have hL' := hL.push { cls := .type "slice", data := .fields #[y, z, .none] }
  refine ⟨Heap.IsList.typeIs (s := { s₃ with heap := s₃.heap.push { cls := .type "slice", data := .fields #[y, z, .none] } }) hL', ?_⟩
  refine wpAny_getItem_list_slice (s := { s₃ with heap := s₃.heap.push { cls := .type "slice", data := .fields #[y, z, .none] } }) hL' (Heap.IsSliceOf.new ..) (part_is (r₂.ext E₃)) (part_is r₃) .none (by simp) ?_ (by rw [hz]; exact Nat.le_trans hn (by decide))
  have fin := newAtAny_W (Q := Q) (H := H₃) (s := s₃) (s' := { s₃ with heap := (s₃.heap.push { cls := .type "slice", data := .fields #[y, z, .none] }).push { cls := .type "list", data := .seq (slicePick xs lo hi Option.none) } })
    (l := pickV l lo hi) (xs := slicePick xs lo hi Option.none) (d := (s₃.heap.push { cls := .type "slice", data := .fields #[y, z, .none] }).objs.size) (by rw [Heap.size_push]; omega) S₃
    (fun b o e => Heap.get?_push_of_some _ (hk b o e)) ⟨_, Heap.get?_push_size _ rfl⟩ (by
      rw [slicePick_plain]
      show VRelL _ _ _ ((xs.toList.drop _).take _)
      rw [hz]
      exact (rl.drop _).take _) rfl rfl hQ
  exact fin.after (E12.trans E₃)
end Mine

set_option Elab.async false
set_option linter.unusedVariables false
namespace Mine
open PySem PySem.W PyProof.Rows

variable {C : Cx} {k : Nat} {env : Env} {ρ : Rho} {H : Hp} {Q R : V → Hp → Prop}
theorem CallW.intB {b : Bool} (h : Q (.int (if b then 1 else 0)) H) : CallW C k (.type "int") [.bool b] Q R H := fun A a s xs S r => by
  cases r with
  | cons r r' =>
    cases r'; cases r
    exact call_int_bool (Post.here h (S.toks _) (.int _ _) rfl)
theorem ints_are {h : Heap} : ∀ {ns : List Int} {xs : List Value}, VRelL h H (ns.map V.int) xs → IntsAre xs ns
  | [], _, .nil => .nil
  | n :: ns, _, .cons r rl => by cases r; exact .cons _ _ (ints_are rl)
theorem CallW.min {v : V} {ns : List Int} (hd : C.hd = true) (hl : lview H v = some (ns.map .int)) (hne : 0 < ns.length) (h : ∀ M, M ∈ ns → (∀ a, a ∈ ns → M ≤ a) → Q (.int M) H) : CallW C k (.builtin "min") [v] Q R H := fun A a s xs S r => by
  cases r with
  | cons r r' =>
    cases r'
    obtain ⟨ad, ys, rfl, hL, rl⟩ := lview_list hl S r
    have hi := ints_are rl
    obtain ⟨xs, e⟩ := hi.allInts.items
    have hns : ns = xs.toList.map (·.1) := by
      rw [← hi.numsOf, ← nums_intItems, ← e]
    have hsz : 0 < xs.size := by
      have h3 := hne; rw [hns, List.length_map, Array.length_toList] at h3; exact h3
    have hL' : s.heap.IsList ad (intItems xs) := by rw [← e]; simpa using hL
    refine min_intList (a.handled hd) hL' hsz fun v h' tk hv hk => ?_
    obtain ⟨t, rfl⟩ := intItems_at hv
    obtain ⟨h1, h2⟩ := argBest_lt (numAt xs) (xs.size - 1)
    refine ⟨_, H, h _ ?_ fun a ha => ?_, S.grown (s' := { s with heap := h', toks := tk }) hk rfl rfl, .int _ _, Ext.grown hk⟩
    · rw [hns, numAt_eq]; exact getD_mem (by rw [List.length_map, Array.length_toList]; omega)
    · rw [hns] at ha
      obtain ⟨j, hj, rfl⟩ := mem_getD ha
      rw [List.length_map, Array.length_toList] at hj
      rw [← numAt_eq]; exact h2 j (by omega)
theorem CallW.max {v : V} {ns : List Int} (hd : C.hd = true) (hl : lview H v = some (ns.map .int)) (hne : 0 < ns.length) (h : ∀ M, M ∈ ns → (∀ a, a ∈ ns → a ≤ M) → Q (.int M) H) : CallW C k (.builtin "max") [v] Q R H := fun A a s xs S r => by
  cases r with
  | cons r r' =>
    cases r'
    obtain ⟨ad, ys, rfl, hL, rl⟩ := lview_list hl S r
    have hi := ints_are rl
    obtain ⟨xs, e⟩ := hi.allInts.items
    have hns : ns = xs.toList.map (·.1) := by
      rw [← hi.numsOf, ← nums_intItems, ← e]
    have hsz : 0 < xs.size := by
      have h3 := hne; rw [hns, List.length_map, Array.length_toList] at h3; exact h3
    have hL' : s.heap.IsList ad (intItems xs) := by rw [← e]; simpa using hL
    refine max_intList (a.handled hd) hL' hsz fun v h' tk hv hk => ?_
    obtain ⟨t, rfl⟩ := intItems_at hv
    obtain ⟨h1, h2⟩ := argBest_gt (numAt xs) (xs.size - 1)
    refine ⟨_, H, h _ ?_ fun a ha => ?_, S.grown (s' := { s with heap := h', toks := tk }) hk rfl rfl, .int _ _, Ext.grown hk⟩
    · rw [hns, numAt_eq]; exact getD_mem (by rw [List.length_map, Array.length_toList]; omega)
    · rw [hns] at ha
      obtain ⟨j, hj, rfl⟩ := mem_getD ha
      rw [List.length_map, Array.length_toList] at hj
      rw [← numAt_eq]; exact h2 j (by omega)
end Mine

set_option Elab.async false
set_option linter.unusedVariables false
namespace Mine
open PySem

abbrev Wt := Option (Bool × List Nat)
def nv (n : Nat) : V := .int n
def ov : Option Nat → V
  | none => .none
  | some n => .int n
def wv : Wt → V
  | none => .none
  | some (b, l) => .tup [.str (Str.ofString (if b = true then "all" else "any")), .lst (l.map nv)]
def WOk (m : Nat) : Wt → Prop
  | none => True
  | some (_, l) => l ≠ [] ∧ l.Nodup ∧ (∀ x ∈ l, x < m) ∧ l.length ≤ 100

def cellV (ns : List Int) (i : Int) : Int := ns.getD i.toNat 0
def mixV (ns : List Int) (i j : Int) : Int := (cellV ns i * 40692 + j * 7727) % 999979
theorem mixV_range (ns i j) : 0 ≤ mixV ns i j ∧ mixV ns i j < 999979 := by unfold mixV; constructor <;> omega

def moreV (n s f : Int) (k : Nat) : Nat := ((f + 1 + n / (700 + 89 * (k : Int)) % s) % s).toNat
def othersV (n s : Int) : Nat → List Nat
  | 0 => [(n / 55 % s).toNat]
  | k + 1 => let l := othersV n s k; let m := moreV n s (n / 55 % s) k; if m ∈ l then l else l ++ [m]
def waitBy (n s f : Int) : Wt :=
  if n % (if f = 0 then 5 else 11) = 0 then none else some (n / 3 % 2 == 0, othersV n s (n / 11 % 4).toNat)
theorem othersV_head (n s : Int) : ∀ k, ∃ t, othersV n s k = (n / 55 % s).toNat :: t
  | 0 => ⟨[], rfl⟩
  | k + 1 => by
    obtain ⟨t, e⟩ := othersV_head n s k
    simp only [othersV]
    split
    · exact ⟨t, e⟩
    · rw [e]; exact ⟨t ++ [_], rfl⟩
theorem othersV_len (n s : Int) : ∀ k, (othersV n s k).length ≤ k + 1
  | 0 => by simp [othersV]
  | k + 1 => by
    have := othersV_len n s k
    simp only [othersV]
    split
    · omega
    · simp; omega
theorem othersV_nodup (n s : Int) : ∀ k, (othersV n s k).Nodup
  | 0 => by simp [othersV]
  | k + 1 => by
    have := othersV_nodup n s k
    simp only [othersV]
    split
    · exact this
    · rename_i h
      rw [List.nodup_append]
      refine ⟨this, by simp, ?_⟩
      intro a ha b hb
      simp at hb; subst hb
      intro q; subst q; exact h ha
theorem othersV_lt (n : Int) (s : Nat) (hs : 0 < s) : ∀ k, ∀ x ∈ othersV n s k, x < s
  | 0 => by
    intro x hx
    simp [othersV] at hx; subst hx
    have := Int.emod_lt_of_pos (n / 55) (b := (s : Int)) (by omega)
    have := Int.emod_nonneg (n / 55) (b := (s : Int)) (by omega)
    omega
  | k + 1 => by
    intro x hx
    simp only [othersV] at hx
    split at hx
    · exact othersV_lt n s hs k x hx
    · rw [List.mem_append] at hx
      rcases hx with hx | hx
      · exact othersV_lt n s hs k x hx
      · simp at hx; subst hx
        unfold moreV
        have := Int.emod_lt_of_pos (n / 55 % s + 1 + n / (700 + 89 * (k : Int)) % s) (b := (s : Int)) (by omega)
        have := Int.emod_nonneg (n / 55 % s + 1 + n / (700 + 89 * (k : Int)) % s) (b := (s : Int)) (by omega)
        omega
theorem waitBy_ok (n f : Int) (s : Nat) (hs : 0 < s) : WOk s (waitBy n s f) := by
  unfold waitBy
  generalize (if f = 0 then (5 : Int) else 11) = m
  by_cases hm : n % m = 0
  · rw [if_pos hm]; trivial
  · rw [if_neg hm]
    refine ⟨?_, othersV_nodup .., othersV_lt n s hs _, by have := othersV_len n s (n / 11 % 4).toNat; omega⟩
    obtain ⟨t, e⟩ := othersV_head n s (n / 11 % 4).toNat
    rw [e]; simp

/- ints in lists -/
theorem datL_nv (l : List Nat) : datL (l.map nv) = (l.map fun (n : Nat) => (n : Int)).map PyData.int := by
  induction l with
  | nil => rfl
  | cons x l ih => simp only [List.map_cons, datL, ih, nv, V.dat]
theorem pureL_nv (l : List Nat) : pureL (l.map nv) = true := by
  induction l with
  | nil => rfl
  | cons x l ih => simp only [List.map_cons, pureL, ih, nv, V.pure]; rfl
end Mine
namespace Mine
open PySem PySem.W PyProof.Rows
variable {C : Cx} {k : Nat} {env : Env} {ρ : Rho} {H : Hp} {Q R : V → Hp → Prop}

theorem okD_ints (l : List Int) : okD (.list (l.map .int)) = true := by
  have a : PyData.canLayAll0 (l.map .int) = true := by
    induction l with
    | nil => rfl
    | cons x l ih => simp only [List.map_cons, PyData.canLayAll0, PyData.canLay0, ih]; rfl
  have b : PyData.depthAll (l.map .int) ≤ 1 := by
    induction l with
    | nil => simp [PyData.depthAll]
    | cons x l ih =>
      simp only [List.map_cons, PyData.canLayAll0, PyData.canLay0, Bool.true_and] at a
      have := ih a
      simp only [List.map_cons, PyData.depthAll, PyData.depth]; omega
  unfold okD SeqAt.shaped
  simp only [PyData.canLay0, PyData.depth, a]
  simp; omega
theorem eqvAll_ints : ∀ l l' : List Int, PyData.eqvAll (l.map .int) (l'.map .int) = (l == l')
  | [], [] => rfl
  | [], _ :: _ => rfl
  | _ :: _, [] => rfl
  | x :: l, y :: l' => by
    simp only [List.map_cons, PyData.eqvAll, PyData.eqv, eqvAll_ints l l']; rfl
theorem see_of {v : V} {l : List V} (h : lview H v = some l) : see H v = .lst l := by
  cases v with
  | lst l' => cases h; rfl
  | ref a =>
    simp only [lview, see] at h ⊢
    split at h
    · rename_i e; cases h; first | rfl | rw [e]
    · cases h
  | _ => cases h
theorem ints_eq (l l' : List Nat) : ((l.map fun (n : Nat) => (n : Int)) == (l'.map fun (n : Nat) => (n : Int))) = (l == l') := by
  rw [Bool.eq_iff_iff, beq_iff_eq, beq_iff_eq]
  constructor
  · intro h
    exact (List.map_inj_right (fun x y e => Int.ofNat.inj e)).mp h
  · rintro rfl; rfl
theorem eqv_nv (l l' : List Nat) : PyData.eqv (.list (datL (l.map nv))) (.list (datL (l'.map nv))) = (l == l') := by
  rw [datL_nv, datL_nv, PyData.eqv, eqvAll_ints, ints_eq]
theorem CmpW.eqN {v w : V} {l l' : List Nat} (hv : lview H v = some (l.map nv)) (hw : lview H w = some (l'.map nv)) (h : Q (.bool (l == l')) H) : CmpW C k .Eq v w Q R H := by
  have e1 := see_of hv
  have e2 := see_of hw
  refine CmpW.eq ?_ ?_ ?_ ?_ ?_ <;> simp only [e1, e2, V.pure, V.dat, pureL_nv]
  · rw [datL_nv]; exact okD_ints _
  · rw [datL_nv]; exact okD_ints _
  · rw [eqv_nv]; exact h
theorem CmpW.neN {v w : V} {l l' : List Nat} (hv : lview H v = some (l.map nv)) (hw : lview H w = some (l'.map nv)) (h : Q (.bool (l != l')) H) : CmpW C k .NotEq v w Q R H := by
  have e1 := see_of hv
  have e2 := see_of hw
  refine CmpW.ne ?_ ?_ ?_ ?_ ?_ <;> simp only [e1, e2, V.pure, V.dat, pureL_nv]
  · rw [datL_nv]; exact okD_ints _
  · rw [datL_nv]; exact okD_ints _
  · rw [eqv_nv]; exact h
theorem countIn_nv (i : Int) (h0 : 0 ≤ i) (l : List Nat) : decide (PySem.Spec.countIn (.int i) (datL (l.map nv)) ≠ 0) = decide (i.toNat ∈ l) := by
  rw [datL_nv, countIn_ints_count]
  rw [decide_eq_decide]
  have : (List.count i (l.map fun (n : Nat) => (n : Int)) ≠ 0) ↔ i ∈ (l.map fun (n : Nat) => (n : Int)) := by
    rw [← List.count_pos_iff]; omega
  have h2 : i ∈ (l.map fun (n : Nat) => (n : Int)) ↔ i.toNat ∈ l := by
    rw [List.mem_map]
    constructor
    · rintro ⟨x, hx, rfl⟩; simpa using hx
    · intro h; exact ⟨_, h, by omega⟩
  rw [← h2, ← this]
  omega
theorem noMix_nv (i : Int) (l : List Nat) : ∀ y ∈ datL (l.map nv), SeqAt.noMix y (.int i) = true := by
  rw [datL_nv]
  intro y hy
  simp at hy
  obtain ⟨a, _, rfl⟩ := hy
  rfl
theorem CmpW.inN {w : V} {i : Int} {l : List Nat} (hw : lview H w = some (l.map nv)) (h0 : 0 ≤ i) (h : Q (.bool (decide (i.toNat ∈ l))) H) : CmpW C k .In (.int i) w Q R H := by
  refine CmpW.inList hw (pureL_nv l) rfl (by rw [datL_nv]; exact okD_ints _) rfl (noMix_nv i l) ?_
  rw [show (see H (.int i)).dat = PyData.int i from rfl, countIn_nv i h0]; exact h
theorem CmpW.notInN {w : V} {i : Int} {l : List Nat} (hw : lview H w = some (l.map nv)) (h0 : 0 ≤ i) (h : Q (.bool (!decide (i.toNat ∈ l))) H) : CmpW C k .NotIn (.int i) w Q R H := by
  refine CmpW.notInList hw (pureL_nv l) rfl (by rw [datL_nv]; exact okD_ints _) rfl (noMix_nv i l) ?_
  rw [show (see H (.int i)).dat = PyData.int i from rfl, countIn_nv i h0]; exact h
theorem lview_nv0 : lview H (.lst []) = some (([] : List Nat).map nv) := rfl
end Mine
namespace Mine
def goesB (b : Bool) (l : List Nat) (r : List (Option Nat)) : Bool :=
  if b = true then (l.map fun x => (r.getD x none).isSome).all id else (l.map fun x => (r.getD x none).isSome).any id
def goesW : Wt → List (Option Nat) → Bool
  | none, _ => false
  | some (b, l), r => goesB b l r
def freshUp (W : List Wt) (r : List (Option Nat)) (n : Nat) : List Nat := (List.range n).filter fun p => (r.getD p none).isNone && goesW (W.getD p none) r
def setL (t : Nat) : List (Option Nat) → List Nat → List (Option Nat)
  | r, [] => r
  | r, p :: f => setL t (r.set p (some t)) f
def run (W : List Wt) : Nat → Nat → List (Option Nat) → List (Option Nat)
  | 0, _, r => r
  | n + 1, t, r => if freshUp W r W.length = [] then r else run W n (t + 1) (setL (t + 1) r (freshUp W r W.length))
def initR (W : List Wt) : List (Option Nat) := W.map fun w => if w.isNone = true then some 0 else none
def freedL (W : List Wt) : List (Option Nat) := run W (W.length + 1) 0 (initR W)
def partR (W : List Wt) (i : Nat) : List (Option Nat) := (List.range W.length).map fun p => if p < i ∧ (W.getD p none).isNone = true then some 0 else none

theorem partR_zero (W : List Wt) : (partR W 0).map ov = List.replicate W.length V.none := by
  apply List.ext_getElem?
  intro i
  simp only [partR, List.getElem?_map, List.getElem?_replicate]
  by_cases h : i < W.length
  · simp [h, ov]
  · rw [List.getElem?_eq_none (by simp; omega)]; simp [h]
theorem partR_full (W : List Wt) : partR W W.length = initR W := by
  apply List.ext_getElem?
  intro i
  simp only [partR, initR, List.getElem?_map]
  by_cases h : i < W.length
  · simp [h]
  · rw [List.getElem?_eq_none (by simp; omega), List.getElem?_eq_none (by omega)]; rfl
theorem partR_set (W : List Wt) (i : Nat) (h : W[i]? = some none) : (partR W i).set i (some 0) = partR W (i + 1) := by
  have hi := (List.getElem?_eq_some_iff.mp h).1
  apply List.ext_getElem?
  intro j
  rw [List.getElem?_set]
  simp only [partR, List.getElem?_map, List.length_map, List.length_range]
  by_cases hj : j < W.length
  · by_cases q : i = j
    · subst q
      have h' : W[i] = none := by rw [List.getElem?_eq_getElem hj] at h; exact Option.some.inj h
      simp [hj, h']
    · have : j < i + 1 ↔ j < i := by omega
      simp [hj, q, this]
  · rw [List.getElem?_eq_none (by simp; omega)]
    have : i ≠ j := by omega
    simp [this]
theorem partR_skip (W : List Wt) (i : Nat) (w : Bool × List Nat) (h : W[i]? = some (some w)) : partR W (i + 1) = partR W i := by
  apply List.ext_getElem?
  intro j
  simp only [partR, List.getElem?_map]
  by_cases hj : j < W.length
  · by_cases q : i = j
    · subst q
      have h' : W[i] = some w := by rw [List.getElem?_eq_getElem hj] at h; exact Option.some.inj h
      simp [hj, h']
    · have : j < i + 1 ↔ j < i := by omega
      simp [hj, this]
  · rw [List.getElem?_eq_none (by simp; omega)]; rfl
theorem partR_length (W : List Wt) (i : Nat) : (partR W i).length = W.length := by simp [partR]
theorem setL_length (t : Nat) : ∀ (f : List Nat) (r : List (Option Nat)), (setL t r f).length = r.length
  | [], r => rfl
  | p :: f, r => by simp [setL, setL_length t f]
theorem setL_append (t : Nat) : ∀ (f g : List Nat) (r : List (Option Nat)), setL t r (f ++ g) = setL t (setL t r f) g
  | [], g, r => rfl
  | p :: f, g, r => by simp only [List.cons_append, setL]; exact setL_append t f g _
theorem freshUp_succ (W : List Wt) (r : List (Option Nat)) (i : Nat) : freshUp W r (i + 1) = if ((r.getD i none).isNone && goesW (W.getD i none) r) = true then freshUp W r i ++ [i] else freshUp W r i := by
  unfold freshUp
  rw [List.range_succ, List.filter_append]
  by_cases h : ((r.getD i none).isNone && goesW (W.getD i none) r) = true
  · rw [if_pos h, List.filter_cons, if_pos h]; rfl
  · rw [if_neg h, List.filter_cons, if_neg h]; simp
def cNone : List (Option Nat) → Nat
  | [] => 0
  | none :: r => cNone r + 1
  | some _ :: r => cNone r
theorem cNone_set : ∀ (r : List (Option Nat)) (p t : Nat), cNone (r.set p (some t)) ≤ cNone r ∧ (r[p]? = some none → cNone (r.set p (some t)) < cNone r)
  | [], p, t => by simp
  | x :: r, 0, t => by cases x <;> simp [cNone]
  | x :: r, p + 1, t => by
    have := cNone_set r p t
    simp only [List.set_cons_succ, List.getElem?_cons_succ]
    cases x <;> simp only [cNone] <;> refine ⟨by omega, fun h => ?_⟩ <;> have := this.2 h <;> omega
theorem cNone_setL (t : Nat) : ∀ (f : List Nat) (r : List (Option Nat)), cNone (setL t r f) ≤ cNone r
  | [], r => Nat.le_refl _
  | p :: f, r => Nat.le_trans (cNone_setL t f _) (cNone_set r p t).1
theorem cNone_length : ∀ r : List (Option Nat), cNone r ≤ r.length
  | [] => Nat.le_refl _
  | none :: r => by have := cNone_length r; simp only [cNone, List.length_cons]; omega
  | some _ :: r => by have := cNone_length r; simp only [cNone, List.length_cons]; omega
theorem mem_fresh {W : List Wt} {r : List (Option Nat)} {n p : Nat} : p ∈ freshUp W r n ↔ p < n ∧ r.getD p none = none ∧ goesW (W.getD p none) r = true := by
  simp [freshUp]
theorem cNone_fresh {W : List Wt} {r : List (Option Nat)} (t : Nat) (hl : r.length = W.length) (h : freshUp W r W.length ≠ []) : cNone (setL t r (freshUp W r W.length)) < cNone r := by
  cases hf : freshUp W r W.length with
  | nil => exact absurd hf h
  | cons p f =>
    have hp : p ∈ freshUp W r W.length := by rw [hf]; simp
    obtain ⟨h1, h2, _⟩ := mem_fresh.mp hp
    have : r[p]? = some none := by
      rw [List.getElem?_eq_getElem (by omega)]
      rw [List.getD_eq_getElem?_getD, List.getElem?_eq_getElem (by omega)] at h2
      simpa using h2
    exact Nat.lt_of_le_of_lt (cNone_setL t f _) ((cNone_set r p t).2 this)
theorem run_length (W : List Wt) : ∀ (n t : Nat) (r : List (Option Nat)), (run W n t r).length = r.length
  | 0, t, r => rfl
  | n + 1, t, r => by
    simp only [run]
    split
    · rfl
    · rw [run_length W n, setL_length]
theorem freedL_length (W : List Wt) : (freedL W).length = W.length := by rw [freedL, run_length]; simp [initR]
theorem fresh_length (W : List Wt) (r : List (Option Nat)) (n : Nat) : (freshUp W r n).length ≤ n := by
  unfold freshUp
  exact Nat.le_trans (List.length_filter_le ..) (by simp)
end Mine
namespace Mine
theorem getD_set (r : List (Option Nat)) (p q : Nat) (v : Option Nat) : (r.set p v).getD q none = if p = q ∧ q < r.length then v else r.getD q none := by
  simp only [List.getD_eq_getElem?_getD, List.getElem?_set]
  by_cases h : p = q
  · subst h
    by_cases h' : p < r.length
    · simp [h']
    · simp [h']
  · simp [h]
theorem setL_keep (t : Nat) : ∀ (f : List Nat) (r : List (Option Nat)) (q : Nat), r.getD q none ≠ none → (setL t r f).getD q none ≠ none
  | [], r, q, h => h
  | p :: f, r, q, h => by
    refine setL_keep t f _ q ?_
    rw [getD_set]; split
    · simp
    · exact h
theorem initR_some (W : List Wt) (p : Nat) (h : W[p]? = some none) : (initR W).getD p none ≠ none := by
  simp [initR, List.getD_eq_getElem?_getD, h]
end Mine
namespace Mine
def gN (g : Nat → Option V) : V → Option V
  | .int i => g i.toNat
  | _ => none
theorem gN_nv (g : Nat → Option V) (n : Nat) : gN g (.int ((n : Nat) : Int)) = g n := by simp [gN]
theorem fm_gN (g : Nat → Option V) (l : List Nat) : (l.map nv).filterMap (gN g) = l.filterMap g := by
  rw [List.filterMap_map]
  congr 1
theorem rangeV_nv (n : Nat) : rangeV n = (List.range n).map nv := rfl
theorem fm_filter (p : Nat → Bool) (l : List Nat) : l.filterMap (fun n => if p n = true then some (nv n) else none) = (l.filter p).map nv := by
  induction l with
  | nil => rfl
  | cons x l ih =>
    rw [List.filterMap_cons, List.filter_cons]
    by_cases h : p x = true
    · simp only [h, if_true]; rw [ih]; rfl
    · simp only [h]; exact ih
theorem fm_map (f : Nat → V) (l : List Nat) : l.filterMap (fun n => some (f n)) = l.map f := by
  rw [List.filterMap_eq_map']
def closedOne (c : Bool) (w : Wt) (bs : List Bool) : Bool :=
  if c = true then match w with
    | none => false
    | some (b, l) => !((l.filter fun x => bs.getD x false) == [] || (!b && decide ((l.filter fun x => bs.getD x false).length < l.length)))
  else true
def closedAt (W : List Wt) (bs : List Bool) (h : Nat) : Bool := closedOne (bs.getD h false) (W.getD h none) bs
def closedB (W : List Wt) (bs : List Bool) : Bool := (List.range W.length).all (closedAt W bs)
def lesserL (r : List (Option Nat)) (m : Int) (l : List Nat) : List Nat := l.filter fun x => match r.getD x none with
  | none => false
  | some t => decide ((t : Int) < m)
def freeB (w : Wt) (r : List (Option Nat)) (m : Int) : Bool := match w with
  | none => m == 0
  | some (b, l) => if b = true then (lesserL r m l).length == l.length else lesserL r m l != []
end Mine

set_option linter.unusedVariables false
namespace Mine

/- what the rounds say -/
structure RoundsOk (W : List Wt) (r : List (Option Nat)) (t : Nat) : Prop where
  len : r.length = W.length
  zero : ∀ p : Nat, W[p]? = some none → r.getD p none = some 0
  pos : ∀ (p : Nat) (b : Bool) (l : List Nat) (u : Nat), W[p]? = some (some (b, l)) → r.getD p none = some u → 0 < u ∧ u ≤ t ∧
    (if b = true then ∀ x ∈ l, ∃ v, r.getD x none = some v ∧ v < u else ∃ x ∈ l, ∃ v, r.getD x none = some v ∧ v < u)

theorem getD_setL_not (t : Nat) : ∀ (f : List Nat) (r : List (Option Nat)) (q : Nat), q ∉ f → (setL t r f).getD q none = r.getD q none
  | [], r, q, h => rfl
  | p :: f, r, q, h => by
    have h1 : p ≠ q := fun e => h (by simp [e])
    have h2 : q ∉ f := fun e => h (by simp [e])
    rw [setL, getD_setL_not t f _ q h2, getD_set, if_neg (by rintro ⟨a, _⟩; exact h1 a)]
theorem getD_setL_mem (t : Nat) : ∀ (f : List Nat) (r : List (Option Nat)) (q : Nat), q ∈ f → q < r.length → (setL t r f).getD q none = some t
  | [], r, q, h, _ => by simp at h
  | p :: f, r, q, h, hq => by
    rw [setL]
    by_cases hf : q ∈ f
    · exact getD_setL_mem t f _ q hf (by simpa using hq)
    · have : q = p := by simpa [hf] using h
      subst this
      rw [getD_setL_not t f _ q hf, getD_set, if_pos ⟨rfl, hq⟩]

theorem goesB_iff (b : Bool) (l : List Nat) (r : List (Option Nat)) : goesB b l r = true ↔ if b = true then ∀ x ∈ l, ∃ v, r.getD x none = some v else ∃ x ∈ l, ∃ v, r.getD x none = some v := by
  unfold goesB
  cases b
  · simp [Option.isSome_iff_exists]
  · simp [Option.isSome_iff_exists]

theorem RoundsOk.init (W : List Wt) : RoundsOk W (initR W) 0 := by
  refine ⟨by simp [initR], fun p h => by simp [initR, List.getD_eq_getElem?_getD, h], ?_⟩
  intro p b l u h hu
  simp [initR, List.getD_eq_getElem?_getD, h] at hu

theorem RoundsOk.le {W r t} (h : RoundsOk W r t) (hW : ∀ w ∈ W, WOk W.length w) (p : Nat) (u : Nat) (e : r.getD p none = some u) : u ≤ t := by
  have hp : p < r.length := by
    false_or_by_contra
    rename_i q
    rw [List.getD_eq_getElem?_getD, List.getElem?_eq_none (by omega)] at e; cases e
  have hpW : p < W.length := by have := h.len; omega
  have hw : W[p]? = some W[p] := List.getElem?_eq_getElem hpW
  cases hwp : W[p]'(by have := h.len; omega) with
  | none => rw [hwp] at hw; have := h.zero p hw; rw [this] at e; cases e; omega
  | some bl => obtain ⟨b, l⟩ := bl; rw [hwp] at hw; exact (h.pos p b l u hw e).2.1

theorem RoundsOk.step {W r t} (h : RoundsOk W r t) (hW : ∀ w ∈ W, WOk W.length w) : RoundsOk W (setL (t + 1) r (freshUp W r W.length)) (t + 1) := by
  have keep : ∀ (p u : Nat), r.getD p none = some u → (setL (t + 1) r (freshUp W r W.length)).getD p none = some u := fun p u e => by
    rw [getD_setL_not, e]
    intro hm
    obtain ⟨_, h2, _⟩ := mem_fresh.mp hm
    rw [h2] at e; cases e
  refine ⟨by rw [setL_length]; exact h.len, fun p hp => keep p 0 (h.zero p hp), ?_⟩
  intro p b l u hw hu
  by_cases hm : p ∈ freshUp W r W.length
  · have hp := (mem_fresh.mp hm).1
    rw [getD_setL_mem _ _ _ _ hm (by rw [h.len]; exact hp)] at hu
    cases hu
    refine ⟨by omega, Nat.le_refl _, ?_⟩
    have hg := (mem_fresh.mp hm).2.2
    rw [List.getD_eq_getElem?_getD, hw] at hg
    have hg := (goesB_iff b l r).mp hg
    cases b
    · simp only [Bool.false_eq_true, if_false] at hg ⊢
      obtain ⟨x, hx, v, hv⟩ := hg
      exact ⟨x, hx, v, keep x v hv, by have := h.le hW x v hv; omega⟩
    · simp only [if_true] at hg ⊢
      intro x hx
      obtain ⟨v, hv⟩ := hg x hx
      exact ⟨v, keep x v hv, by have := h.le hW x v hv; omega⟩
  · rw [getD_setL_not _ _ _ _ hm] at hu
    obtain ⟨a1, a2, a3⟩ := h.pos p b l u hw hu
    refine ⟨a1, by omega, ?_⟩
    cases b
    · simp only [Bool.false_eq_true, if_false] at a3 ⊢
      obtain ⟨x, hx, v, hv, hlt⟩ := a3
      exact ⟨x, hx, v, keep x v hv, hlt⟩
    · simp only [if_true] at a3 ⊢
      intro x hx
      obtain ⟨v, hv, hlt⟩ := a3 x hx
      exact ⟨v, keep x v hv, hlt⟩

theorem run_ok {W : List Wt} (hW : ∀ w ∈ W, WOk W.length w) : ∀ (n t : Nat) (r : List (Option Nat)), RoundsOk W r t → cNone r < n → ∃ t', RoundsOk W (run W n t r) t' ∧ freshUp W (run W n t r) W.length = []
  | 0, t, r, _, hc => absurd hc (Nat.not_lt_zero _)
  | n + 1, t, r, h, hc => by
    rw [run]
    by_cases hf : freshUp W r W.length = []
    · rw [if_pos hf]; exact ⟨t, h, hf⟩
    · rw [if_neg hf]
      exact run_ok hW n (t + 1) _ (h.step hW) (by have := cNone_fresh (t + 1) h.len hf; omega)
theorem freed_facts {W : List Wt} (hW : ∀ w ∈ W, WOk W.length w) : ∃ t, RoundsOk W (freedL W) t ∧ freshUp W (freedL W) W.length = [] :=
  run_ok hW _ _ _ (RoundsOk.init W) (by have := cNone_length (initR W); simp [initR] at this ⊢; omega)

def thereL (W : List Wt) : List Bool := (List.range W.length).map fun p => ((freedL W).getD p none).isNone
theorem thereL_get (W : List Wt) (p : Nat) (h : p < W.length) : (thereL W).getD p false = ((freedL W).getD p none).isNone := by
  simp [thereL, List.getD_eq_getElem?_getD, h]

/-- the stuck hands are closed -/
theorem closed_there {W : List Wt} (hW : ∀ w ∈ W, WOk W.length w) : closedB W (thereL W) = true := by
  obtain ⟨t, ok, hf⟩ := freed_facts hW
  rw [closedB, List.all_eq_true]
  intro p hp
  have hp : p < W.length := by simpa using hp
  have hw : W[p]? = some W[p] := List.getElem?_eq_getElem hp
  unfold closedAt
  rw [thereL_get W p hp]
  have hWd : W.getD p none = W[p] := by simp [hp]
  rw [hWd]
  have hmem : W[p] ∈ W := List.getElem_mem hp
  generalize W[p] = w at hw hmem hWd
  unfold closedOne
  cases hr : (freedL W).getD p none with
  | some u => rfl
  | none =>
    simp only [Option.isNone_none, if_true]
    cases w with
    | none => rw [ok.zero p hw] at hr; cases hr
    | some bl =>
      obtain ⟨b, l⟩ := bl
      obtain ⟨w1, w2, w3, w4⟩ := hW _ hmem
      have hng : goesB b l (freedL W) ≠ true := by
        intro hg
        have : p ∈ freshUp W (freedL W) W.length := mem_fresh.mpr ⟨hp, hr, by rw [hWd]; exact hg⟩
        rw [hf] at this; simp at this
      rw [Ne, goesB_iff] at hng
      have hfil : ∀ x ∈ l, (thereL W).getD x false = ((freedL W).getD x none).isNone := fun x hx => thereL_get W x (w3 x hx)
      cases b
      · simp only [Bool.false_eq_true, if_false] at hng
        have hall : ∀ x ∈ l, (thereL W).getD x false = true := fun x hx => by
          rw [hfil x hx]
          cases hv : (freedL W).getD x none with
          | none => rfl
          | some v => exact absurd ⟨x, hx, v, hv⟩ hng
        have : (l.filter fun x => (thereL W).getD x false) = l := List.filter_eq_self.mpr hall
        dsimp only
        rw [this]; simp [w1]
      · simp only [if_true] at hng
        have : ∃ x ∈ l, (thereL W).getD x false = true := by
          false_or_by_contra
          rename_i hn
          refine hng fun x hx => ?_
          cases hv : (freedL W).getD x none with
          | some v => exact ⟨v, rfl⟩
          | none => exact absurd ⟨x, hx, by rw [hfil x hx, hv]; rfl⟩ hn
        obtain ⟨x, hx, hb⟩ := this
        have : (l.filter fun x => (thereL W).getD x false) ≠ [] := List.ne_nil_of_mem (List.mem_filter.mpr ⟨hx, hb⟩)
        dsimp only
        rw [Bool.not_true, Bool.false_and, Bool.or_false, beq_eq_false_iff_ne.mpr this]; rfl

/-- every closed set is stuck -/
theorem closed_le {W : List Wt} (hW : ∀ w ∈ W, WOk W.length w) {bs : List Bool} (hc : closedB W bs = true) : ∀ (u p : Nat), p < W.length → (freedL W).getD p none = some u → bs.getD p false = false := by
  obtain ⟨t, ok, hf⟩ := freed_facts hW
  intro u
  induction u using Nat.strongRecOn with
  | _ u ih =>
    intro p hp hr
    have hw : W[p]? = some W[p] := List.getElem?_eq_getElem hp
    cases hb : bs.getD p false with
    | false => rfl
    | true =>
      exfalso
      rw [closedB, List.all_eq_true] at hc
      have h1 := hc p (by simpa using hp)
      unfold closedAt at h1
      have hWd : W.getD p none = W[p] := by simp [hp]
      rw [hb, hWd] at h1
      have hmem : W[p] ∈ W := List.getElem_mem hp
      generalize W[p] = w at hw hmem hWd h1
      cases w with
      | none => simp [closedOne] at h1
      | some bl =>
        obtain ⟨b, l⟩ := bl
        obtain ⟨w1, w2, w3, w4⟩ := hW _ hmem
        obtain ⟨a1, a2, a3⟩ := ok.pos p b l u hw hr
        simp only [closedOne, if_true] at h1
        cases b
        · simp only [Bool.false_eq_true, if_false] at a3
          obtain ⟨x, hx, v, hv, hlt⟩ := a3
          have hnx := ih v hlt x (w3 x hx) hv
          have hlen : (l.filter fun x => bs.getD x false).length < l.length := by
            have := List.length_filter_lt_length_iff_exists (p := fun x => bs.getD x false) (l := l)
            exact this.mpr ⟨x, hx, by rw [hnx]; decide⟩
          rw [decide_eq_true hlen, Bool.not_false, Bool.true_and, Bool.or_true] at h1
          cases h1
        · simp only [if_true] at a3
          have : (l.filter fun x => bs.getD x false) = [] := by
            rw [List.filter_eq_nil_iff]
            intro x hx
            obtain ⟨v, hv, hlt⟩ := a3 x hx
            rw [ih v hlt x (w3 x hx) hv]; simp
          rw [this] at h1; simp at h1

theorem free_true {W : List Wt} (hW : ∀ w ∈ W, WOk W.length w) (p u : Nat) (hp : p < W.length) (hr : (freedL W).getD p none = some u) : freeB (W.getD p none) (freedL W) u = true := by
  obtain ⟨t, ok, hf⟩ := freed_facts hW
  have hw : W[p]? = some W[p] := List.getElem?_eq_getElem hp
  have hWd : W.getD p none = W[p] := by simp [hp]
  rw [hWd]
  generalize W[p] = w at hw
  cases w with
  | none => rw [ok.zero p hw] at hr; cases hr; rfl
  | some bl =>
    obtain ⟨b, l⟩ := bl
    obtain ⟨a1, a2, a3⟩ := ok.pos p b l u hw hr
    unfold freeB
    cases b
    · simp only [Bool.false_eq_true, if_false] at a3 ⊢
      obtain ⟨x, hx, v, hv, hlt⟩ := a3
      have : x ∈ lesserL (freedL W) u l := by
        unfold lesserL; rw [List.mem_filter]; refine ⟨hx, ?_⟩; rw [hv]; simp; omega
      have := List.ne_nil_of_mem this
      simpa using this
    · simp only [if_true] at a3 ⊢
      have : lesserL (freedL W) u l = l := by
        unfold lesserL
        rw [List.filter_eq_self]
        intro x hx
        obtain ⟨v, hv, hlt⟩ := a3 x hx
        rw [hv]; simp; omega
      rw [this]; simp
end Mine

set_option linter.unusedVariables false
namespace Mine
open PySem PySem.W PyProof.Rows
variable {C : Cx} {k : Nat} {env : Env} {ρ : Rho} {H : Hp} {Q R : V → Hp → Prop} {QB : Bool → Hp → Prop} {QS : Fl → Rho → Hp → Prop} {RS : V → Rho → Hp → Prop}
/-- one statement, and what is known behind it -/
def SeqQ (X : List (Str × V) → Hp → Prop) (QS : Fl → Rho → Hp → Prop) : Fl → Rho → Hp → Prop
  | .next, ρ, H => ∃ l, X l H ∧ Rho.sat l ρ
  | .cont, ρ, H => QS .cont ρ H
  | .brk, ρ, H => QS .brk ρ H
  | .ret u, ρ, H => QS (.ret u) ρ H
theorem ExecsW.seq {st rest} (X : List (Str × V) → Hp → Prop) (h : ExecW C k env st (SeqQ X QS) RS ρ H) (h2 : ∀ l H', X l H' → ExecsW C k env rest QS RS (Rho.of l) H') : ExecsW C k env (st :: rest) QS RS ρ H := by
  refine ExecsW.cons ?_
  intro A a s S
  refine wpAny_mono (h A a s S) ?_ fun _ _ p => p
  rintro f s' ⟨fl, ρ', H', q, r, S', E⟩
  cases fl with
  | next => obtain ⟨l, x, hs⟩ := q; exact ⟨.next, Rho.of l, H', h2 l H' x, r, S'.weaken hs.le, E⟩
  | cont => exact ⟨.cont, ρ', H', q, r, S', E⟩
  | brk => exact ⟨.brk, ρ', H', q, r, S', E⟩
  | ret u => exact ⟨.ret u, ρ', H', q, r, S', E⟩
end Mine

set_option linter.unusedVariables false
namespace Mine
/- the laws' ways to make waits, with their numbers left open -/
def mixG (a b m : Int) (ns : List Int) (i j : Int) : Int := (cellV ns i * a + j * b) % m
theorem mixG_range (a b m : Int) (hm : 0 < m) (ns i j) : 0 ≤ mixG a b m ns i j ∧ mixG a b m ns i j < m := ⟨Int.emod_nonneg _ (by omega), Int.emod_lt_of_pos _ hm⟩
def moreG (c1 c2 n s f : Int) (k : Nat) : Nat := ((f + 1 + n / (c1 + c2 * (k : Int)) % s) % s).toNat
def othersG (d c1 c2 n s : Int) : Nat → List Nat
  | 0 => [(n / d % s).toNat]
  | k + 1 => let l := othersG d c1 c2 n s k; let m := moreG c1 c2 n s (n / d % s) k; if m ∈ l then l else l ++ [m]
theorem othersG_head (d c1 c2 n s : Int) : ∀ k, ∃ t, othersG d c1 c2 n s k = (n / d % s).toNat :: t
  | 0 => ⟨[], rfl⟩
  | k + 1 => by
    obtain ⟨t, e⟩ := othersG_head d c1 c2 n s k
    simp only [othersG]
    split
    · exact ⟨t, e⟩
    · rw [e]; exact ⟨t ++ [_], rfl⟩
theorem othersG_len (d c1 c2 n s : Int) : ∀ k, (othersG d c1 c2 n s k).length ≤ k + 1
  | 0 => by simp [othersG]
  | k + 1 => by
    have := othersG_len d c1 c2 n s k
    simp only [othersG]
    split
    · omega
    · simp; omega
theorem othersG_nodup (d c1 c2 n s : Int) : ∀ k, (othersG d c1 c2 n s k).Nodup
  | 0 => by simp [othersG]
  | k + 1 => by
    have := othersG_nodup d c1 c2 n s k
    simp only [othersG]
    split
    · exact this
    · rename_i h
      rw [List.nodup_append]
      refine ⟨this, by simp, ?_⟩
      intro a ha b hb
      simp at hb; subst hb
      intro q; subst q; exact h ha
theorem emod_toNat_lt (x : Int) (s : Nat) (hs : 0 < s) : (x % (s : Int)).toNat < s := by
  have := Int.emod_lt_of_pos x (b := (s : Int)) (by omega)
  have := Int.emod_nonneg x (b := (s : Int)) (by omega)
  omega
theorem othersG_lt (d c1 c2 n : Int) (s : Nat) (hs : 0 < s) : ∀ k, ∀ x ∈ othersG d c1 c2 n s k, x < s
  | 0 => by
    intro x hx
    simp [othersG] at hx; subst hx
    exact emod_toNat_lt _ s hs
  | k + 1 => by
    intro x hx
    simp only [othersG] at hx
    split at hx
    · exact othersG_lt d c1 c2 n s hs k x hx
    · rw [List.mem_append] at hx
      rcases hx with hx | hx
      · exact othersG_lt d c1 c2 n s hs k x hx
      · simp at hx; subst hx
        exact emod_toNat_lt _ s hs
theorem waitG_ok (b : Bool) (d c1 c2 n : Int) (s k : Nat) (hs : 0 < s) (hk : k ≤ 50) : WOk s (some (b, othersG d c1 c2 n s k)) := by
  refine ⟨?_, othersG_nodup .., othersG_lt d c1 c2 n s hs _, by have := othersG_len d c1 c2 n s k; omega⟩
  obtain ⟨t, e⟩ := othersG_head d c1 c2 n s k
  rw [e]; simp
end Mine

set_option linter.unusedVariables false
namespace Mine
open PySem PySem.W PyProof.Rows
variable {C : Cx} {k : Nat} {env : Env} {ρ : Rho} {H : Hp} {Q R : V → Hp → Prop}

def S_cell : SpecT := fun args Q R H => ∃ (ns : List Int) (i : Int), args = [.lst (ns.map .int), .int i] ∧ 0 ≤ i ∧ ns.length ≤ 100 ∧ Q (.int (cellV ns i)) H
def S_mixG (a b m : Int) : SpecT := fun args Q R H => ∃ (ns : List Int) (i j : Int), args = [.lst (ns.map .int), .int i, .int j] ∧ 0 ≤ i ∧ ns.length ≤ 100 ∧ Q (.int (mixG a b m ns i j)) H
def S_is_place : SpecT := fun args Q R H => ∃ (i m : Int), args = [.int i, .int m] ∧ Q (.bool (decide (0 ≤ i) && decide (i < m))) H
def S_is_wait : SpecT := fun args Q R H => ∃ (w : Wt) (m : Nat), args = [wv w, .int m] ∧ WOk m w ∧ Q (.bool true) H
def WsOk (W : List Wt) : Prop := 0 < W.length ∧ W.length ≤ 40 ∧ ∀ w ∈ W, WOk W.length w
def S_need : SpecT := fun args Q R H => ∃ W : List Wt, args = [.lst (W.map wv)] ∧ WsOk W ∧ Q (.bool true) H
def S_goes : SpecT := fun args Q R H => ∃ (b : Bool) (l : List Nat) (r : List (Option Nat)) (rv : V), args = [wv (some (b, l)), rv] ∧ lview H rv = some (r.map ov) ∧ l.length ≤ 100 ∧ (∀ x ∈ l, x < r.length) ∧ r.length ≤ 100 ∧ Q (.bool (goesB b l r)) H
def S_freed : SpecT := fun args Q R H => ∃ W : List Wt, args = [.lst (W.map wv)] ∧ WsOk W ∧ Q (.lst ((freedL W).map ov)) H
def stuckL (W : List Wt) : List Nat := (List.range W.length).filter fun p => ((freedL W).getD p none).isNone
def S_stuck : SpecT := fun args Q R H => ∃ W : List Wt, args = [.lst (W.map wv)] ∧ WsOk W ∧ Q (.lst ((stuckL W).map nv)) H
theorem enum_get {W : List Wt} {i : Nat} {v : V} (h : (enumV (W.map wv))[i]? = some v) : ∃ w, W[i]? = some w ∧ w ∈ W ∧ v = .tup [.int ((i : Nat) : Int), wv w] := by
  rw [enumV, enumFrom_get, List.getElem?_map] at h
  cases hw : W[i]? with
  | none => rw [hw] at h; cases h
  | some w => rw [hw] at h; cases h; exact ⟨w, rfl, List.mem_of_getElem? hw, by simp⟩
theorem enumV_length {l : List V} : (enumV l).length = l.length := enumFrom_length

/- waits as data -/
theorem wv_pure (w : Wt) : (wv w).pure = true := by
  cases w with
  | none => rfl
  | some bl => obtain ⟨b, l⟩ := bl; simp only [wv, V.pure, pureL, pureL_nv]; rfl
theorem wvs_pure (W : List Wt) : pureL (W.map wv) = true := by
  induction W with
  | nil => rfl
  | cons w W ih => simp only [List.map_cons, pureL, wv_pure, ih]; rfl
theorem okD_parts {d : PyData} (h : okD d = true) : d.canLay0 = true ∧ d.depth ≤ 64 := by
  unfold okD SeqAt.shaped at h; simpa using h
theorem okD_of {d : PyData} (h1 : d.canLay0 = true) (h2 : d.depth ≤ 64) : okD d = true := by
  unfold okD SeqAt.shaped; simp [h1, h2]
theorem wv_lay (w : Wt) : (wv w).dat.canLay0 = true ∧ (wv w).dat.depth ≤ 5 := by
  cases w with
  | none => exact ⟨rfl, by decide⟩
  | some bl =>
    obtain ⟨b, l⟩ := bl
    have hd : (wv (some (b, l))).dat = .tuple [.str (Str.ofString (if b = true then "all" else "any")), .list ((l.map fun (n : Nat) => (n : Int)).map PyData.int)] := by
      simp only [wv, V.dat, datL, datL_nv]
    have hl := okD_parts (okD_ints (l.map fun (n : Nat) => (n : Int)))
    have hdep : PyData.depthAll ((l.map fun (n : Nat) => (n : Int)).map PyData.int) ≤ 1 := by
      generalize (l.map fun (n : Nat) => (n : Int)) = ns
      clear hl hd
      induction ns with
      | nil => simp [PyData.depthAll]
      | cons x l ih => simp only [List.map_cons, PyData.depthAll, PyData.depth]; omega
    rw [hd]
    refine ⟨?_, ?_⟩
    · simp only [PyData.canLay0, PyData.canLayAll0]
      have := hl.1
      simp only [PyData.canLay0] at this
      rw [this]
      cases b <;> decide +kernel
    · simp only [PyData.depth, PyData.depthAll]; omega
theorem wvs_ok (W : List Wt) : okD (.list (datL (W.map wv))) = true := by
  have h : PyData.canLayAll0 (datL (W.map wv)) = true ∧ PyData.depthAll (datL (W.map wv)) ≤ 5 := by
    induction W with
    | nil => exact ⟨rfl, by decide⟩
    | cons w W ih =>
      have := wv_lay w
      simp only [List.map_cons, datL, PyData.canLayAll0, PyData.depthAll, this.1, ih.1]
      exact ⟨rfl, by omega⟩
  refine okD_of ?_ ?_
  · simpa only [PyData.canLay0] using h.1
  · simp only [PyData.depth]; omega
mutual
theorem eqv_refl : ∀ d : PyData, d.canLay0 = true → PyData.eqv d d = true
  | .none, _ => rfl
  | .bool b, _ => by simp [PyData.eqv]
  | .int b, _ => by simp [PyData.eqv]
  | .str b, _ => by simp [PyData.eqv]
  | .list xs, h => by simp only [PyData.canLay0] at h; simp only [PyData.eqv]; exact eqvAll_refl xs h
  | .tuple xs, h => by simp only [PyData.canLay0] at h; simp only [PyData.eqv]; exact eqvAll_refl xs h
  | .dict _, h => by simp [PyData.canLay0] at h
theorem eqvAll_refl : ∀ d : List PyData, PyData.canLayAll0 d = true → PyData.eqvAll d d = true
  | [], _ => rfl
  | x :: xs, h => by
    simp only [PyData.canLayAll0, Bool.and_eq_true] at h
    simp only [PyData.eqvAll, eqv_refl x h.1, eqvAll_refl xs h.2]; rfl
end
theorem CmpW.eqWs {v w : V} {W : List Wt} (hv : lview H v = some (W.map wv)) (hw : lview H w = some (W.map wv)) (h : Q (.bool true) H) : CmpW C k .Eq v w Q R H := by
  have e1 := see_of hv
  have e2 := see_of hw
  refine CmpW.eq ?_ ?_ ?_ ?_ ?_ <;> simp only [e1, e2, V.pure, V.dat, wvs_pure]
  · exact wvs_ok W
  · exact wvs_ok W
  · rw [eqv_refl _ (okD_parts (wvs_ok W)).1]; exact h
theorem CmpW.neWs {v w : V} {W : List Wt} (hv : lview H v = some (W.map wv)) (hw : lview H w = some (W.map wv)) (h : Q (.bool false) H) : CmpW C k .NotEq v w Q R H := by
  have e1 := see_of hv
  have e2 := see_of hw
  refine CmpW.ne ?_ ?_ ?_ ?_ ?_ <;> simp only [e1, e2, V.pure, V.dat, wvs_pure]
  · exact wvs_ok W
  · exact wvs_ok W
  · rw [eqv_refl _ (okD_parts (wvs_ok W)).1]; exact h
theorem CmpW.eqB {a b : Bool} (h : Q (.bool (a == b)) H) : CmpW C k .Eq (.bool a) (.bool b) Q R H := CmpW.eq rfl rfl rfl rfl h
theorem CmpW.neB {a b : Bool} (h : Q (.bool (!(a == b))) H) : CmpW C k .NotEq (.bool a) (.bool b) Q R H := CmpW.ne rfl rfl rfl rfl h
end Mine

set_option linter.unusedVariables false
namespace Mine

/- rounds, exactly -/
structure RoundsX (W : List Wt) (r : List (Option Nat)) (t : Nat) : Prop where
  len : r.length = W.length
  zero : ∀ p : Nat, W[p]? = some none → r.getD p none = some 0
  le : ∀ (p u : Nat), r.getD p none = some u → u ≤ t
  any : ∀ (p : Nat) (l : List Nat) (u : Nat), W[p]? = some (some (false, l)) → r.getD p none = some u → (∃ x ∈ l, ∃ v, r.getD x none = some v ∧ u = v + 1) ∧ ∀ x ∈ l, ∀ v, r.getD x none = some v → u ≤ v + 1
  all : ∀ (p : Nat) (l : List Nat) (u : Nat), W[p]? = some (some (true, l)) → r.getD p none = some u → (∃ x ∈ l, ∃ v, r.getD x none = some v ∧ u = v + 1) ∧ ∀ x ∈ l, ∃ v, r.getD x none = some v ∧ v < u
  nany : ∀ (p : Nat) (l : List Nat), W[p]? = some (some (false, l)) → r.getD p none = none → ∀ x ∈ l, ∀ v, r.getD x none = some v → v = t
  nall : ∀ (p : Nat) (l : List Nat), W[p]? = some (some (true, l)) → r.getD p none = none → ∃ x ∈ l, r.getD x none = none ∨ r.getD x none = some t
  bound : (∃ p u, r.getD p none = some u) → t + cNone r + 1 ≤ W.length

theorem cNone_lt {r : List (Option Nat)} : ∀ {p u : Nat}, r.getD p none = some u → cNone r + 1 ≤ r.length := by
  induction r with
  | nil => intro p u h; simp at h
  | cons x r ih =>
    intro p u h
    cases p with
    | zero =>
      simp at h; subst h
      have := cNone_length r
      simp only [cNone, List.length_cons]; omega
    | succ p =>
      have h' : r.getD p none = some u := by simpa using h
      have := ih h'
      cases x <;> simp only [cNone, List.length_cons] <;> omega

theorem initR_get (W : List Wt) (p : Nat) : (initR W).getD p none = match W[p]? with
    | some none => some 0
    | _ => none := by
  unfold initR
  rw [List.getD_eq_getElem?_getD, List.getElem?_map]
  cases h : W[p]? with
  | none => rfl
  | some w => cases w <;> rfl

theorem RoundsX.init (W : List Wt) (hW : ∀ w ∈ W, WOk W.length w) : RoundsX W (initR W) 0 := by
  have hz : ∀ p u, (initR W).getD p none = some u → u = 0 ∧ W[p]? = some none := fun p u e => by
    rw [initR_get] at e
    split at e
    · rename_i h; cases e; exact ⟨rfl, h⟩
    · cases e
  refine ⟨by simp [initR], fun p h => by rw [initR_get, h], fun p u e => by have := (hz p u e).1; omega, ?_, ?_, ?_, ?_, ?_⟩
  · intro p l u h e; have := (hz p u e).2; rw [h] at this; cases this
  · intro p l u h e; have := (hz p u e).2; rw [h] at this; cases this
  · intro p l h e x hx v hv; exact (hz x v hv).1
  · intro p l h e
    obtain ⟨w1, _⟩ := hW _ (List.mem_of_getElem? h)
    cases l with
    | nil => exact absurd rfl w1
    | cons x l =>
      refine ⟨x, List.mem_cons_self .., ?_⟩
      cases hx : (initR W).getD x none with
      | none => exact .inl rfl
      | some v => right; rw [(hz x v hx).1]
  · rintro ⟨p, u, e⟩
    have := cNone_lt e
    simp [initR] at this ⊢; omega

theorem RoundsX.step {W r t} (h : RoundsX W r t) (hW : ∀ w ∈ W, WOk W.length w) (hf : freshUp W r W.length ≠ []) : RoundsX W (setL (t + 1) r (freshUp W r W.length)) (t + 1) := by
  have keep : ∀ (p u : Nat), r.getD p none = some u → (setL (t + 1) r (freshUp W r W.length)).getD p none = some u := fun p u e => by
    rw [getD_setL_not, e]
    intro hm
    obtain ⟨_, h2, _⟩ := mem_fresh.mp hm
    rw [h2] at e; cases e
  have cases' : ∀ (p u : Nat), (setL (t + 1) r (freshUp W r W.length)).getD p none = some u → r.getD p none = some u ∨ (u = t + 1 ∧ p ∈ freshUp W r W.length) := fun p u e => by
    by_cases hm : p ∈ freshUp W r W.length
    · rw [getD_setL_mem _ _ _ _ hm (by rw [h.len]; exact (mem_fresh.mp hm).1)] at e
      cases e; exact .inr ⟨rfl, hm⟩
    · rw [getD_setL_not _ _ _ _ hm] at e; exact .inl e
  have casesN : ∀ p, (setL (t + 1) r (freshUp W r W.length)).getD p none = none → r.getD p none = none ∧ p ∉ freshUp W r W.length := fun p e => by
    by_cases hm : p ∈ freshUp W r W.length
    · rw [getD_setL_mem _ _ _ _ hm (by rw [h.len]; exact (mem_fresh.mp hm).1)] at e; cases e
    · rw [getD_setL_not _ _ _ _ hm] at e; exact ⟨e, hm⟩
  have ofN : ∀ x, r.getD x none = none → (setL (t + 1) r (freshUp W r W.length)).getD x none = none ∨ (setL (t + 1) r (freshUp W r W.length)).getD x none = some (t + 1) := fun x e => by
    cases hx : (setL (t + 1) r (freshUp W r W.length)).getD x none with
    | none => exact .inl rfl
    | some v =>
      rcases cases' x v hx with q | ⟨q, _⟩
      · rw [e] at q; cases q
      · right; rw [q]
  have goesOf : ∀ {p b l}, p ∈ freshUp W r W.length → W[p]? = some (some (b, l)) → r.getD p none = none ∧ goesB b l r = true := fun {p b l} hm hw => by
    obtain ⟨_, h2, h3⟩ := mem_fresh.mp hm
    rw [List.getD_eq_getElem?_getD, hw] at h3
    exact ⟨h2, h3⟩
  have notGoes : ∀ {p b l}, p < W.length → p ∉ freshUp W r W.length → r.getD p none = none → W[p]? = some (some (b, l)) → ¬ goesB b l r = true := fun {p b l} hp hm hn hw hg =>
    hm (mem_fresh.mpr ⟨hp, hn, by rw [List.getD_eq_getElem?_getD, hw]; exact hg⟩)
  have lt_of : ∀ {p : Nat} {w : Wt}, W[p]? = some w → p < W.length := fun hw => (List.getElem?_eq_some_iff.mp hw).1
  refine ⟨by rw [setL_length]; exact h.len, fun p hp => keep p 0 (h.zero p hp), ?_, ?_, ?_, ?_, ?_, ?_⟩
  · intro p u e
    rcases cases' p u e with q | ⟨q, _⟩
    · have := h.le p u q; omega
    · omega
  · intro p l u hw e
    rcases cases' p u e with q | ⟨q, hm⟩
    · obtain ⟨⟨x, hx, v, hv, huv⟩, b2⟩ := h.any p l u hw q
      refine ⟨⟨x, hx, v, keep x v hv, huv⟩, fun y hy v' hv' => ?_⟩
      rcases cases' y v' hv' with q' | ⟨q', _⟩
      · exact b2 y hy v' q'
      · have := h.le p u q; omega
    · obtain ⟨hn, hg⟩ := goesOf hm hw
      rw [goesB_iff] at hg
      simp only [Bool.false_eq_true, if_false] at hg
      obtain ⟨x, hx, v, hv⟩ := hg
      refine ⟨⟨x, hx, v, keep x v hv, by rw [h.nany p l hw hn x hx v hv]; exact q⟩, fun y hy v' hv' => ?_⟩
      rcases cases' y v' hv' with q' | ⟨q', _⟩
      · have := h.nany p l hw hn y hy v' q'; omega
      · omega
  · intro p l u hw e
    rcases cases' p u e with q | ⟨q, hm⟩
    · obtain ⟨⟨x, hx, v, hv, huv⟩, b2⟩ := h.all p l u hw q
      exact ⟨⟨x, hx, v, keep x v hv, huv⟩, fun y hy => let ⟨v', hv', hlt⟩ := b2 y hy; ⟨v', keep y v' hv', hlt⟩⟩
    · obtain ⟨hn, hg⟩ := goesOf hm hw
      rw [goesB_iff] at hg
      simp only [if_true] at hg
      obtain ⟨x, hx, hxx⟩ := h.nall p l hw hn
      refine ⟨?_, fun y hy => ?_⟩
      · obtain ⟨v, hv⟩ := hg x hx
        rcases hxx with hxx | hxx
        · rw [hxx] at hv; cases hv
        · exact ⟨x, hx, t, keep x t hxx, q⟩
      · obtain ⟨v, hv⟩ := hg y hy
        exact ⟨v, keep y v hv, by have := h.le y v hv; omega⟩
  · intro p l hw e x hx v hv
    obtain ⟨hn, hm⟩ := casesN p e
    have hng := notGoes (lt_of hw) hm hn hw
    rw [goesB_iff] at hng
    simp only [Bool.false_eq_true, if_false] at hng
    rcases cases' x v hv with q | ⟨q, _⟩
    · exact absurd ⟨x, hx, v, q⟩ hng
    · exact q
  · intro p l hw e
    obtain ⟨hn, hm⟩ := casesN p e
    have hng := notGoes (lt_of hw) hm hn hw
    rw [goesB_iff] at hng
    simp only [if_true] at hng
    false_or_by_contra
    rename_i hno
    refine hng fun x hx => ?_
    cases hx' : r.getD x none with
    | some v => exact ⟨v, rfl⟩
    | none => exact absurd ⟨x, hx, ofN x hx'⟩ hno
  · intro _
    obtain ⟨p, hm⟩ : ∃ p, p ∈ freshUp W r W.length := by
      cases hq : freshUp W r W.length with
      | nil => exact absurd hq hf
      | cons p _ => exact ⟨p, List.mem_cons_self ..⟩
    obtain ⟨hp, h2, h3⟩ := mem_fresh.mp hm
    have hsome : ∃ p u, r.getD p none = some u := by
      have hw : W[p]? = some W[p] := List.getElem?_eq_getElem hp
      rw [List.getD_eq_getElem?_getD, hw] at h3
      have hmem : W[p] ∈ W := List.getElem_mem hp
      generalize W[p] = w at h3 hmem
      cases w with
      | none => cases h3
      | some bl =>
        obtain ⟨b, l⟩ := bl
        obtain ⟨w1, _⟩ := hW _ hmem
        have hg : goesB b l r = true := h3
        rw [goesB_iff] at hg
        cases b
        · simp only [Bool.false_eq_true, if_false] at hg
          obtain ⟨x, hx, v, hv⟩ := hg; exact ⟨x, v, hv⟩
        · simp only [if_true] at hg
          cases l with
          | nil => exact absurd rfl w1
          | cons x l => obtain ⟨v, hv⟩ := hg x (List.mem_cons_self ..); exact ⟨x, v, hv⟩
    have := h.bound hsome
    have := cNone_fresh (t + 1) h.len hf
    omega

theorem runX {W : List Wt} (hW : ∀ w ∈ W, WOk W.length w) : ∀ (n t : Nat) (r : List (Option Nat)), RoundsX W r t → cNone r < n → ∃ t', RoundsX W (run W n t r) t' ∧ freshUp W (run W n t r) W.length = []
  | 0, t, r, _, hc => absurd hc (Nat.not_lt_zero _)
  | n + 1, t, r, h, hc => by
    rw [run]
    by_cases hf : freshUp W r W.length = []
    · rw [if_pos hf]; exact ⟨t, h, hf⟩
    · rw [if_neg hf]
      exact runX hW n (t + 1) _ (h.step hW hf) (by have := cNone_fresh (t + 1) h.len hf; omega)
theorem freedX {W : List Wt} (hW : ∀ w ∈ W, WOk W.length w) : ∃ t, RoundsX W (freedL W) t ∧ freshUp W (freedL W) W.length = [] :=
  runX hW _ _ _ (RoundsX.init W hW) (by have := cNone_length (initR W); simp [initR] at this ⊢; omega)
end Mine

set_option linter.unusedVariables false
namespace Mine
def minL : List Nat → Nat
  | [] => 0
  | [x] => x
  | x :: y :: l => min x (minL (y :: l))
def maxL : List Nat → Nat
  | [] => 0
  | x :: l => max x (maxL l)
theorem minL_spec : ∀ (l : List Nat), l ≠ [] → minL l ∈ l ∧ ∀ x ∈ l, minL l ≤ x
  | [], h => absurd rfl h
  | [x], _ => by simp [minL]
  | x :: y :: l, _ => by
    have ih := minL_spec (y :: l) (by simp)
    simp only [minL]
    constructor
    · rcases Nat.le_total x (minL (y :: l)) with h | h
      · rw [Nat.min_eq_left h]; exact List.mem_cons_self ..
      · rw [Nat.min_eq_right h]; exact List.mem_cons_of_mem _ ih.1
    · intro z hz
      rcases List.mem_cons.mp hz with rfl | hz
      · exact Nat.min_le_left ..
      · exact Nat.le_trans (Nat.min_le_right ..) (ih.2 z hz)
theorem maxL_spec : ∀ (l : List Nat), l ≠ [] → maxL l ∈ l ∧ ∀ x ∈ l, x ≤ maxL l
  | [], h => absurd rfl h
  | [x], _ => by simp [maxL]
  | x :: y :: l, _ => by
    have ih := maxL_spec (y :: l) (by simp)
    have e : maxL (x :: y :: l) = max x (maxL (y :: l)) := rfl
    rw [e]
    constructor
    · rcases Nat.le_total x (maxL (y :: l)) with h | h
      · rw [Nat.max_eq_right h]; exact List.mem_cons_of_mem _ ih.1
      · rw [Nat.max_eq_left h]; exact List.mem_cons_self ..
    · intro z hz
      rcases List.mem_cons.mp hz with rfl | hz
      · exact Nat.le_max_left ..
      · exact Nat.le_trans (ih.2 z hz) (Nat.le_max_right ..)
def comeL (r : List (Option Nat)) (l : List Nat) : List Nat := l.filterMap fun x => r.getD x none
def dueV : Wt → List (Option Nat) → Option Nat
  | none, _ => some 0
  | some (false, l), r => if comeL r l = [] then none else some (1 + minL (comeL r l))
  | some (true, l), r => if (comeL r l).length = l.length then some (1 + maxL (comeL r l)) else none
def plainN (W : List Wt) : Nat → List (Option Nat)
  | 0 => List.replicate W.length none
  | n + 1 => W.map fun w => dueV w (plainN W n)
def cutR (r : List (Option Nat)) (j : Nat) : List (Option Nat) := r.map fun o => match o with
  | none => none
  | some u => if u < j then some u else none
theorem cutR_get (r : List (Option Nat)) (j p : Nat) : (cutR r j).getD p none = match r.getD p none with
    | none => none
    | some u => if u < j then some u else none := by
  unfold cutR
  rw [List.getD_eq_getElem?_getD, List.getD_eq_getElem?_getD, List.getElem?_map]
  cases r[p]? with
  | none => rfl
  | some o => rfl
theorem come_mem {r : List (Option Nat)} {j : Nat} {l : List Nat} {v : Nat} : v ∈ comeL (cutR r j) l ↔ ∃ x ∈ l, r.getD x none = some v ∧ v < j := by
  unfold comeL
  rw [List.mem_filterMap]
  constructor
  · rintro ⟨x, hx, e⟩
    rw [cutR_get] at e
    cases h : r.getD x none with
    | none => rw [h] at e; cases e
    | some u =>
      rw [h] at e
      simp only at e
      split at e
      · cases e; rename_i q; exact ⟨x, hx, h, q⟩
      · cases e
  · rintro ⟨x, hx, e, hlt⟩
    refine ⟨x, hx, ?_⟩
    rw [cutR_get, e]; simp only; rw [if_pos hlt]
theorem filterMap_len {α β : Type} (f : α → Option β) : ∀ l : List α, (l.filterMap f).length = l.length ↔ ∀ x ∈ l, (f x).isSome = true
  | [] => by simp
  | x :: l => by
    have ih := filterMap_len f l
    have hle := List.length_filterMap_le f l
    cases h : f x with
    | none =>
      rw [List.filterMap_cons_none h]
      constructor
      · intro e; simp at e; omega
      · intro e; have := e x (List.mem_cons_self ..); rw [h] at this; cases this
    | some b =>
      rw [List.filterMap_cons_some h]
      simp only [List.length_cons, Nat.add_right_cancel_iff, ih]
      constructor
      · intro e y hy
        rcases List.mem_cons.mp hy with rfl | hy
        · rw [h]; rfl
        · exact e y hy
      · intro e y hy; exact e y (List.mem_cons_of_mem _ hy)
theorem due_cut {W : List Wt} (hW : ∀ w ∈ W, WOk W.length w) (j p : Nat) (hp : p < W.length) : dueV (W.getD p none) (cutR (freedL W) j) = (cutR (freedL W) (j + 1)).getD p none := by
  obtain ⟨t, X, hf⟩ := freedX hW
  have hw : W[p]? = some W[p] := List.getElem?_eq_getElem hp
  have hWd : W.getD p none = W[p] := by simp [hp]
  have hmem : W[p] ∈ W := List.getElem_mem hp
  rw [hWd, cutR_get]
  generalize hwe : W[p] = w at hw hmem hWd
  cases w with
  | none => rw [X.zero p hw]; rfl
  | some bl =>
    obtain ⟨b, l⟩ := bl
    obtain ⟨w1, w2, w3, w4⟩ := hW _ hmem
    have hng : (freedL W).getD p none = none → ¬ goesB b l (freedL W) = true := fun hn hg => by
      have : p ∈ freshUp W (freedL W) W.length := mem_fresh.mpr ⟨hp, hn, by rw [hWd]; exact hg⟩
      rw [hf] at this; simp at this
    cases b
    · simp only [dueV]
      cases hr : (freedL W).getD p none with
      | none =>
        have hng := hng hr
        rw [goesB_iff] at hng
        simp only [Bool.false_eq_true, if_false] at hng
        have : comeL (cutR (freedL W) j) l = [] := by
          rw [List.eq_nil_iff_forall_not_mem]
          intro v hv
          obtain ⟨x, hx, e, _⟩ := come_mem.mp hv
          exact hng ⟨x, hx, v, e⟩
        rw [if_pos this]
      | some u =>
        obtain ⟨⟨x, hx, v, hv, huv⟩, b2⟩ := X.any p l u hw hr
        simp only
        by_cases hu : u < j + 1
        · rw [if_pos hu]
          have hvm : v ∈ comeL (cutR (freedL W) j) l := come_mem.mpr ⟨x, hx, hv, by omega⟩
          have hne := List.ne_nil_of_mem hvm
          rw [if_neg hne]
          obtain ⟨m1, m2⟩ := minL_spec _ hne
          have h1 := m2 v hvm
          obtain ⟨y, hy, e, _⟩ := come_mem.mp m1
          have h2 := b2 y hy _ e
          congr 1; omega
        · rw [if_neg hu]
          have : comeL (cutR (freedL W) j) l = [] := by
            rw [List.eq_nil_iff_forall_not_mem]
            intro v hv
            obtain ⟨y, hy, e, hlt⟩ := come_mem.mp hv
            have := b2 y hy v e
            omega
          rw [if_pos this]
    · simp only [dueV]
      have hlen : (comeL (cutR (freedL W) j) l).length = l.length ↔ ∀ x ∈ l, ∃ v, (freedL W).getD x none = some v ∧ v < j := by
        unfold comeL
        rw [filterMap_len]
        constructor
        · intro e x hx
          have := e x hx
          rw [cutR_get] at this
          cases h : (freedL W).getD x none with
          | none => rw [h] at this; cases this
          | some v =>
            rw [h] at this
            simp only at this
            split at this
            · rename_i q; exact ⟨v, rfl, q⟩
            · cases this
        · intro e x hx
          obtain ⟨v, hv, hlt⟩ := e x hx
          rw [cutR_get, hv]; simp only; rw [if_pos hlt]; rfl
      cases hr : (freedL W).getD p none with
      | none =>
        have hng := hng hr
        rw [goesB_iff] at hng
        simp only [if_true] at hng
        rw [if_neg]
        intro e
        exact hng fun x hx => let ⟨v, hv, _⟩ := hlen.mp e x hx; ⟨v, hv⟩
      | some u =>
        obtain ⟨⟨x, hx, v, hv, huv⟩, b2⟩ := X.all p l u hw hr
        simp only
        by_cases hu : u < j + 1
        · rw [if_pos hu, if_pos (hlen.mpr fun y hy => let ⟨v', hv', hlt⟩ := b2 y hy; ⟨v', hv', by omega⟩)]
          have hvm : v ∈ comeL (cutR (freedL W) j) l := come_mem.mpr ⟨x, hx, hv, by omega⟩
          have hne := List.ne_nil_of_mem hvm
          obtain ⟨m1, m2⟩ := maxL_spec _ hne
          have h1 := m2 v hvm
          obtain ⟨y, hy, e, _⟩ := come_mem.mp m1
          obtain ⟨v', hv', hlt⟩ := b2 y hy
          rw [hv'] at e
          have e := Option.some.inj e
          congr 1; omega
        · rw [if_neg hu, if_neg]
          intro e
          obtain ⟨v', hv', hlt⟩ := hlen.mp e x hx
          rw [hv] at hv'
          have := Option.some.inj hv'
          omega
theorem plain_cut {W : List Wt} (hW : ∀ w ∈ W, WOk W.length w) : ∀ j, plainN W j = cutR (freedL W) j
  | 0 => by
    apply List.ext_getElem?
    intro i
    have hl := freedL_length W
    simp only [plainN, cutR, List.getElem?_map, List.getElem?_replicate]
    by_cases h : i < W.length
    · rw [if_pos h, List.getElem?_eq_getElem (by omega)]
      simp only [Option.map_some]
      cases (freedL W)[i]'(by omega) <;> simp
    · rw [if_neg h, List.getElem?_eq_none (by omega)]; rfl
  | j + 1 => by
    have ih := plain_cut hW j
    have hl := freedL_length W
    apply List.ext_getElem?
    intro i
    by_cases h : i < W.length
    · have e1 := due_cut hW j i h
      have hWd : W.getD i none = W[i] := by simp [h]
      rw [hWd] at e1
      simp only [plainN, List.getElem?_map, List.getElem?_eq_getElem h, Option.map_some, ih]
      rw [e1]
      have hlen : i < (cutR (freedL W) (j + 1)).length := by simp [cutR]; omega
      rw [List.getD_eq_getElem?_getD, List.getElem?_eq_getElem hlen]; rfl
    · rw [List.getElem?_eq_none (by simp [plainN]; omega), List.getElem?_eq_none (by simp [cutR]; omega)]
theorem plain_freed {W : List Wt} (hW : ∀ w ∈ W, WOk W.length w) : plainN W W.length = freedL W := by
  rw [plain_cut hW]
  obtain ⟨t, X, hf⟩ := freedX hW
  apply List.ext_getElem?
  intro i
  simp only [cutR, List.getElem?_map]
  cases h : (freedL W)[i]? with
  | none => rfl
  | some o =>
    cases o with
    | none => rfl
    | some u =>
      have hg : (freedL W).getD i none = some u := by rw [List.getD_eq_getElem?_getD, h]; rfl
      have h1 := X.le i u hg
      have h2 := X.bound ⟨i, u, hg⟩
      simp only [Option.map_some]
      rw [if_pos (by omega)]
end Mine

set_option linter.unusedVariables false
namespace Mine
open PySem PySem.W PyProof.Rows
variable {C : Cx} {k : Nat} {env : Env} {ρ : Rho} {H : Hp} {Q R : V → Hp → Prop}

/-- list(xs) that nobody will change -/
theorem CallW.listCopyF {v : V} {l : List V} (hl : lview H v = some l) (hn : l.length ≤ 100000) (h : Q (.lst l) H) : CallW C k (.type "list") [v] Q R H := fun A a s xs S r => by
  refine wpAny_mono (CallW.listCopy (C := C) (k := k) (Q := fun v H' => ∃ a, v = .ref a ∧ H a = Option.none ∧ H' = H.set a (.list l)) (R := R) hl hn (fun a ha => ⟨a, rfl, ha, rfl⟩) A a s xs S r) ?_ fun _ _ p => p
  rintro x s' ⟨v', H', ⟨b, rfl, hb, rfl⟩, S', r', E'⟩
  obtain ⟨S3, r3⟩ := (fz_new (acc := l) hb).2 C s' x S' r'
  exact ⟨.lst l, H, h, S3, r3, ⟨E'.keep, fun c o e n => n, E'.live⟩⟩

/- lists of rounds -/
theorem ov_pure (l : List (Option Nat)) : pureL (l.map ov) = true := by
  induction l with
  | nil => rfl
  | cons x l ih => cases x <;> simp only [List.map_cons, pureL, ih, ov, V.pure] <;> rfl
theorem ov_ok (l : List (Option Nat)) : okD (.list (datL (l.map ov))) = true := by
  have h : PyData.canLayAll0 (datL (l.map ov)) = true ∧ PyData.depthAll (datL (l.map ov)) ≤ 5 := by
    induction l with
    | nil => exact ⟨rfl, by decide⟩
    | cons x l ih =>
      cases x <;> simp only [List.map_cons, ov, datL, V.dat, PyData.canLayAll0, PyData.canLay0, PyData.depthAll, PyData.depth, ih.1] <;> exact ⟨rfl, by omega⟩
  refine okD_of ?_ ?_
  · simpa only [PyData.canLay0] using h.1
  · simp only [PyData.depth]; omega
theorem CmpW.neOself {v w : V} {l : List (Option Nat)} (hv : lview H v = some (l.map ov)) (hw : lview H w = some (l.map ov)) (h : Q (.bool false) H) : CmpW C k .NotEq v w Q R H := by
  have e1 := see_of hv
  have e2 := see_of hw
  refine CmpW.ne ?_ ?_ ?_ ?_ ?_ <;> simp only [e1, e2, V.pure, V.dat, ov_pure]
  · exact ov_ok l
  · exact ov_ok l
  · rw [eqv_refl _ (okD_parts (ov_ok l)).1]; exact h

/- a whole turn of all hands -/
def backL (s : Nat) (c : Int) : List Nat := (List.range s).map fun (k : Nat) => (((s : Int) + c - (k : Int)) % (s : Int)).toNat
theorem backL_ok (b : Bool) (s : Nat) (c : Int) (hs : 0 < s) (hs' : s ≤ 100) : WOk s (some (b, backL s c)) := by
  refine ⟨?_, ?_, ?_, by simp [backL]; exact hs'⟩
  · intro h
    have := congrArg List.length h
    simp [backL] at this; omega
  · unfold backL
    rw [List.nodup_iff_pairwise_ne, List.pairwise_map]
    refine List.Pairwise.imp_of_mem ?_ (List.pairwise_lt_range (n := s))
    intro i j hi hj hij e
    have hi : i < s := by simpa using hi
    have hj : j < s := by simpa using hj
    have a1 := Int.emod_nonneg ((s : Int) + c - (i : Int)) (b := (s : Int)) (by omega)
    have a2 := Int.emod_nonneg ((s : Int) + c - (j : Int)) (b := (s : Int)) (by omega)
    have e : ((s : Int) + c - (i : Int)) % (s : Int) = ((s : Int) + c - (j : Int)) % (s : Int) := by omega
    have := Int.emod_emod_of_dvd
    have hd : ((s : Int) + c - (i : Int) - ((s : Int) + c - (j : Int))) % (s : Int) = 0 := Int.emod_eq_emod_iff_emod_sub_eq_zero.mp e
    have hd2 : ((j : Int) - (i : Int)) % (s : Int) = 0 := by
      rw [← hd]; congr 1; omega
    rw [Int.emod_eq_of_lt (by omega) (by omega)] at hd2
    omega
  · intro x hx
    simp only [backL, List.mem_map] at hx
    obtain ⟨k, _, rfl⟩ := hx
    exact emod_toNat_lt _ s hs
end Mine

open PySem PySem.W PyProof.Rows
set_option Elab.async false
set_option maxRecDepth 100000
set_option maxHeartbeats 8000000
namespace Mine
open_top hd02 for PySem.Challenge.rw_uf060008_02
end Mine

set_option Elab.async false
set_option linter.unusedVariables false
namespace Mine
open PySem PySem.W PyProof.Rows

theorem ints_rel {h : Heap} {H : Hp} {vals : List Value} {ns : List Int} (hI : IntsAre vals ns) : VRelL h H (ns.map .int) vals := by
  induction hI with
  | nil => exact .nil
  | cons n t _ ih => exact .cons (.int n t) ih

theorem law_glue {prog : Program} {w : World} {s₁ : Shared} {a : Addr} {vals : List Value} {ns : List Int} {f : Value} {S : SpecT} {k : Nat} {c : ClaimW} {cl : Str → Option Addr} {mean : ExcName → Option Value} {args : List WData}
    (low : ∃ o, s₁.heap.get? cStatics = some o) (hg : s₁.gens = #[]) (hL : s₁.heap.IsList a vals.toArray) (hI : IntsAre vals ns)
    (hf : FnOK ⟨prog, w, s₁.heap, s₁.os, true, low⟩ k f S) (hk : k ≤ 20)
    (hS : S [.lst (ns.map .int)] (fun v _ => v = .bool true) (fun _ _ => False) (fun _ => Option.none))
    (hr : ∀ cls, c.raises args cls = false) (hp : c.post args (.bool true) args = true) :
    codeAny (model prog w) callerA (.call f ⟨[.ref a], []⟩) (GoodWG c cl mean args s₁) s₁ := by
  have lv : Lv ⟨prog, w, s₁.heap, s₁.os, true, low⟩ k callerA := by
    refine ⟨fun _ => rfl, ?_, ?_⟩
    · have : callerA.depth + 2 * 20 + 100 < recursionLimit := by decide +kernel
      omega
    · have : callerA.units + 40 * 20 + 100 < cLine := by decide +kernel
      omega
  have sim : Sim ⟨prog, w, s₁.heap, s₁.os, true, low⟩ (fun _ => Option.none) s₁ := ⟨fun _ _ e => e, hg, rfl, fun _ _ e => (nomatch e), fun _ e => absurd rfl e⟩
  refine codeAny_mono (hf callerA lv s₁ (fun _ => Option.none) [.lst (ns.map .int)] [.ref a] _ _ sim (.cons (.lst hL rfl (by simpa using ints_rel hI)) .nil) hS) ?_
  intro r s' p
  rcases r with e | (_ | _ | _ | v)
  · obtain ⟨_, _, q, _⟩ := p; exact q.elim
  · exact p.elim
  · exact p.elim
  · exact p.elim
  · obtain ⟨_, H', rfl, S', rv, E⟩ := p
    cases rv
    exact GoodW.toG ⟨.inl ⟨_, .bool true, [], rfl, hr, .bool true, hp, fun _ => ⟨List.nodup_nil, fun _ h => by cases h⟩⟩, S'.keep, S'.os, S'.gens⟩
end Mine

set_option Elab.async false
set_option maxRecDepth 100000
set_option linter.unusedVariables false
namespace Mine
open PySem PySem.W PyProof.Rows

local macro_rules
  | `(tactic| walk_at "v") => `(tactic| with_reducible first
    | (refine gE ?_; first
      | (refine gName ?_; first
        | refine EvalW.local_ (by with_unfolding_all rfl) ?_ (by with_unfolding_all rfl)
        | refine EvalW.cell (by with_unfolding_all rfl) ?_ (by with_unfolding_all rfl)
        | refine EvalW.free (by with_unfolding_all rfl) ?_ (by with_unfolding_all rfl)
        | refine EvalW.global (PCx.blt (by assumption) (by kernel_rfl) (by boot_fast)) ?_ (by with_unfolding_all rfl))
      | (refine gConst ?_; first
        | refine EvalW.int ?_
        | refine EvalW.none ?_
        | refine EvalW.bool ?_
        | refine EvalW.str ?_)
      | (refine gCall ?_; first
        | refine EvalW.callName (x := Str.ofString "is_place") (PCx.glob (v := .ref 53) (by assumption) (by kernel_rfl)) (Plainly.ofK (PCx.X (by assumption)) (by with_unfolding_all rfl)) (by with_unfolding_all rfl) ?_ (hp := by with_unfolding_all rfl)
        | refine EvalW.callName (x := Str.ofString "is_wait") (PCx.glob (v := .ref 60) (by assumption) (by kernel_rfl)) (Plainly.ofK (PCx.X (by assumption)) (by with_unfolding_all rfl)) (by with_unfolding_all rfl) ?_ (hp := by with_unfolding_all rfl)
        | refine EvalW.callName (x := Str.ofString "need") (PCx.glob (v := .ref 67) (by assumption) (by kernel_rfl)) (Plainly.ofK (PCx.X (by assumption)) (by with_unfolding_all rfl)) (by with_unfolding_all rfl) ?_ (hp := by with_unfolding_all rfl)
        | refine EvalW.callName (x := Str.ofString "goes") (PCx.glob (v := .ref 72) (by assumption) (by kernel_rfl)) (Plainly.ofK (PCx.X (by assumption)) (by with_unfolding_all rfl)) (by with_unfolding_all rfl) ?_ (hp := by with_unfolding_all rfl)
        | refine EvalW.callName (x := Str.ofString "freed") (PCx.glob (v := .ref 79) (by assumption) (by kernel_rfl)) (Plainly.ofK (PCx.X (by assumption)) (by with_unfolding_all rfl)) (by with_unfolding_all rfl) ?_ (hp := by with_unfolding_all rfl)
        | refine EvalW.callName (x := Str.ofString "stuck") (PCx.glob (v := .ref 84) (by assumption) (by kernel_rfl)) (Plainly.ofK (PCx.X (by assumption)) (by with_unfolding_all rfl)) (by with_unfolding_all rfl) ?_ (hp := by with_unfolding_all rfl)
        | refine EvalW.callName (x := Str.ofString "_law_cell_at") (PCx.glob (v := .ref 91) (by assumption) (by kernel_rfl)) (Plainly.ofK (PCx.X (by assumption)) (by with_unfolding_all rfl)) (by with_unfolding_all rfl) ?_ (hp := by with_unfolding_all rfl)
        | refine EvalW.callName (x := Str.ofString "_law_mixed") (PCx.glob (v := .ref 98) (by assumption) (by kernel_rfl)) (Plainly.ofK (PCx.X (by assumption)) (by with_unfolding_all rfl)) (by with_unfolding_all rfl) ?_ (hp := by with_unfolding_all rfl)
        | refine EvalW.callName (x := Str.ofString "_law_wait_by") (PCx.glob (v := .ref 105) (by assumption) (by kernel_rfl)) (Plainly.ofK (PCx.X (by assumption)) (by with_unfolding_all rfl)) (by with_unfolding_all rfl) ?_ (hp := by with_unfolding_all rfl)
        | refine EvalW.callName (x := Str.ofString "_law_waits") (PCx.glob (v := .ref 110) (by assumption) (by kernel_rfl)) (Plainly.ofK (PCx.X (by assumption)) (by with_unfolding_all rfl)) (by with_unfolding_all rfl) ?_ (hp := by with_unfolding_all rfl)
        | refine EvalW.callName (x := Str.ofString "_law_copy") (PCx.glob (v := .ref 117) (by assumption) (by kernel_rfl)) (Plainly.ofK (PCx.X (by assumption)) (by with_unfolding_all rfl)) (by with_unfolding_all rfl) ?_ (hp := by with_unfolding_all rfl)
        | refine EvalW.callName (x := Str.ofString "_law_due") (PCx.glob (v := .ref 122) (by assumption) (by kernel_rfl)) (Plainly.ofK (PCx.X (by assumption)) (by with_unfolding_all rfl)) (by with_unfolding_all rfl) ?_ (hp := by with_unfolding_all rfl)
        | refine EvalW.callName (x := Str.ofString "_law_plain") (PCx.glob (v := .ref 127) (by assumption) (by kernel_rfl)) (Plainly.ofK (PCx.X (by assumption)) (by with_unfolding_all rfl)) (by with_unfolding_all rfl) ?_ (hp := by with_unfolding_all rfl)
        | refine EvalW.callName (PCx.blt (by assumption) (by kernel_rfl) (by boot_fast)) (by first | exact Plainly.builtin _ | exact Plainly.type _) (by with_unfolding_all rfl) ?_ (hp := by with_unfolding_all rfl)
        | refine EvalW.method ?_ (by with_unfolding_all rfl) (by with_unfolding_all rfl))
      | refine EvalW.sub ?_
      | refine EvalW.listMul ?_ (by with_unfolding_all rfl)
      | refine EvalW.binop ?_
      | refine EvalW.compare ?_
      | refine EvalW.compare2 ?_
      | refine EvalW.not ?_
      | refine EvalW.and ?_
      | refine EvalW.or ?_
      | refine EvalW.and_one ?_
      | refine EvalW.tuple ?_)
    | (refine gA ?_; first
      | refine ArgsW.cons ?_ (by with_unfolding_all rfl)
      | refine ArgsW.nil ?_)
    | (refine gB ?_; first
      | refine BinW.add ?_
      | refine BinW.mul (by first | exact IntMulOk.of_right (by decide) | exact IntMulOk.of_left (by decide)) ?_
      | refine BinW.mod (by first | decide | omega) ?_
      | refine BinW.floordiv (by first | decide | omega) (by first | decide | omega) ?_
      | refine BinW.sub ?_)
    | (refine gC ?_; first
      | refine CmpW.lt ?_
      | refine CmpW.le ?_
      | refine CmpW.gt ?_
      | refine CmpW.ge ?_
      | refine CmpW.eqI ?_
      | refine CmpW.neI ?_
      | refine CmpW.eqS ?_
      | refine CmpW.neS ?_)
    | refine TruthW.bool ?_
    | (refine gT ?_; first
      | refine TestW.compare ?_
      | refine TestW.compare2 ?_
      | refine TestW.not ?_
      | refine TestW.and ?_
      | refine TestW.or ?_
      | refine TestW.and_nil ?_
      | refine TestW.or_nil ?_
      | refine TestW.plain ?_ (by intro; with_unfolding_all rfl))
    | (refine gX ?_; first
      | refine ExecsW.cons ?_
      | refine ExecsW.nil ?_)
    | refine Cont.next ?_
    | refine Cont.ret ?_
    | (refine gS ?_; first
      | refine ExecW.if_ ?_
      | refine ExecW.ret ?_
      | refine ExecW.assign (Storable.l (by with_unfolding_all rfl)) ?_ (by with_unfolding_all rfl)
      | refine ExecW.assign (Storable.c (by with_unfolding_all rfl) (by with_unfolding_all rfl)) ?_ (by with_unfolding_all rfl)
      | refine ExecW.assign_sub ?_ (by with_unfolding_all rfl)
      | refine ExecW.expr ?_ (by with_unfolding_all rfl) (by with_unfolding_all rfl)))
  | `(tactic| walk_at "w") => `(tactic| repeat walk_at "v")

noncomputable abbrev K2 (C : Cx) : Frag := hd02.heap_39 C.w.params
variable {C : Cx}

def S_mixed : SpecT := S_mixG 48271 7919 999983
set_option maxHeartbeats 4000000 in
theorem cell_ok (P : PCx C (K2 C)) (k : Nat) : FnOK C (k + 1) (.ref 91) S_cell := by
  refine FnOK.ofK (K := K2 C) [Str.ofString "_law_script", Str.ofString "_law_k"] P.X P.lim rfl (by kernel_rfl) ?_ (by kernel_rfl) (by kernel_rfl) ?_
  · intro vals h
    rcases vals with _ | ⟨a, _ | ⟨b, _ | ⟨c, t⟩⟩⟩ <;> simp at h
    rfl
  · rintro args Q R H ⟨ns, i, rfl, hi, hn, hQ⟩
    refine ⟨rfl, fun L => ?_⟩
    walk_at "w"
    refine CallW.len rfl (by simp; omega) ?_
    walk_at "w"
    refine ite_w (fun h => ?_) fun h => ?_
    · simp at h
      walk_at "w"
      refine SubW.list (l := ns.map .int) rfl hi (by omega) (u := .int (cellV ns i)) ?_ ?_
      · have : i.toNat < ns.length := by omega
        simp [cellV, this]
      · exact ⟨_, _, Fz.refl, hQ⟩
    · simp at h
      walk_at "w"
      refine ⟨_, _, Fz.refl, ?_⟩
      have : cellV ns i = 0 := by simp [cellV]; rw [List.getElem?_eq_none (by omega)]; rfl
      rw [this] at hQ; exact hQ

set_option maxHeartbeats 4000000 in
theorem mixed_ok (P : PCx C (K2 C)) (k : Nat) : FnOK C (k + 2) (.ref 98) S_mixed := by
  refine FnOK.ofK (K := K2 C) [Str.ofString "_law_script", Str.ofString "_law_k", Str.ofString "_law_salt"] P.X P.lim rfl (by kernel_rfl) ?_ (by kernel_rfl) (by kernel_rfl) ?_
  · intro vals h
    rcases vals with _ | ⟨a, _ | ⟨b, _ | ⟨c, _ | ⟨d, t⟩⟩⟩⟩ <;> simp at h
    rfl
  · rintro args Q R H ⟨ns, i, j, rfl, hi, hn, hQ⟩
    refine ⟨rfl, fun L => ?_⟩
    walk_at "w"
    refine (cell_ok P k).call ⟨ns, i, rfl, hi, hn, ?_⟩
    walk_at "w"
    exact ⟨_, _, Fz.refl, hQ⟩

set_option maxHeartbeats 4000000 in
theorem is_place_ok (P : PCx C (K2 C)) (k : Nat) : FnOK C (k + 1) (.ref 53) S_is_place := by
  refine FnOK.ofK (K := K2 C) [Str.ofString "thing", Str.ofString "many"] P.X P.lim rfl (by kernel_rfl) ?_ (by kernel_rfl) (by kernel_rfl) ?_
  · intro vals h
    rcases vals with _ | ⟨a, _ | ⟨b, _ | ⟨c, t⟩⟩⟩ <;> simp at h
    rfl
  · rintro args Q R H ⟨i, m, rfl, hQ⟩
    refine ⟨rfl, fun L => ?_⟩
    walk_at "w"
    refine CallW.isi_int rfl ?_
    walk_at "w"
    refine ite_t rfl ?_
    walk_at "w"
    refine CallW.isi_bool rfl ?_
    walk_at "w"
    refine ite_t rfl ?_
    walk_at "w"
    refine ite_w (fun h => ?_) fun h => ?_
    · walk_at "w"
      refine RetQ.here ?_
      rw [h] at hQ; exact hQ
    · walk_at "w"
      refine RetQ.here ?_
      rw [h] at hQ ⊢; exact hQ

set_option maxHeartbeats 4000000 in
theorem is_wait_ok (P : PCx C (K2 C)) (k : Nat) : FnOK C (k + 2) (.ref 60) S_is_wait := by
  refine FnOK.ofK (K := K2 C) [Str.ofString "thing", Str.ofString "many"] P.X P.lim rfl (by kernel_rfl) ?_ (by kernel_rfl) (by kernel_rfl) ?_
  · intro vals h
    rcases vals with _ | ⟨a, _ | ⟨b, _ | ⟨c, t⟩⟩⟩ <;> simp at h
    rfl
  · rintro args Q R H ⟨w, m, rfl, hw, hQ⟩
    refine ⟨rfl, fun L => ?_⟩
    cases w with
    | none =>
      walk_at "w"
      refine CmpW.isNone trivial ?_
      walk_at "w"
      refine ite_t rfl ?_
      walk_at "w"
      exact RetQ.here hQ
    | some w =>
      obtain ⟨b, l⟩ := w
      obtain ⟨hw1, hw2, hw3, hw4⟩ := hw
      simp only [wv]
      walk_at "w"
      refine CmpW.isNone trivial ?_
      walk_at "w"
      refine ite_f rfl ?_
      walk_at "w"
      refine CallW.isi_tuple rfl ?_
      walk_at "w"
      refine ite_f rfl ?_
      walk_at "w"
      refine CallW.lenT (by simp) ?_
      walk_at "w"
      refine ite_f rfl ?_
      walk_at "w"
      refine SubW.tup (by omega) (by omega) rfl ?_
      walk_at "w"
      refine CallW.isi_str rfl ?_
      walk_at "w"
      refine ite_f rfl ?_
      walk_at "w"
      refine ite_f rfl ?_
      walk_at "w"
      refine SubW.tup (by omega) (by omega) rfl ?_
      walk_at "w"
      cases b
      case' false =>
        refine ite_t rfl ?_
        walk_at "w"
        refine SubW.tup (by omega) (by omega) rfl ?_
        walk_at "w"
        refine ite_f rfl ?_
      case' true =>
        refine ite_f rfl ?_
      all_goals
        walk_at "w"
        refine ite_f rfl ?_
        walk_at "w"
        refine SubW.tup (by omega) (by omega) rfl ?_
        walk_at "w"
        refine CallW.isi_list rfl ?_
        walk_at "w"
        refine ite_f rfl ?_
        walk_at "w"
        refine SubW.tup (by omega) (by omega) rfl ?_
        refine EvalW.list_fz ?_
        walk_at "w"
        refine ⟨by simp, ?_⟩
        refine CmpW.eqN rfl lview_nv0 ?_
        walk_at "w"
        refine ite_f (by simpa using hw1) ?_
        walk_at "w"
        refine ite_f rfl ?_
        walk_at "w"
        refine EvalW.dictI fun a ha => ?_
        walk_at "w"
        refine ExecW.for_in false P.hd (fun e => by cases e) ?_
        refine IterE.list ?_
        walk_at "w"
        refine SubW.tup (by omega) (by omega) rfl ?_
        refine ⟨_, rfl, fun r l' H' => ∃ (i : Nat) (d : Int → Option V) (n : Nat), r = (l.map nv).drop i ∧ i ≤ l.length ∧ n ≤ i ∧ l' = [(Str.ofString "many", V.int m), (Str.ofString "met", V.ref a)] ∧ H' a = some (.dictI d n) ∧ (∀ x : Nat, x ∉ l.take i → d x = none) ∧ Hp.le H H', ?_, ?_, ?_, ?_⟩
        · exact ⟨_, ⟨0, _, 0, rfl, Nat.zero_le _, Nat.le_refl _, rfl, Hp.set_self .., fun _ _ => rfl, Hp.le_set ha⟩, rfl, rfl, trivial⟩
        · rintro r l' H' ⟨i, d, n, _⟩; rfl
        · rintro v r l' H' ⟨i, d, n, e, hi, hni, rfl, h1, h2, h3⟩
          obtain ⟨hv, hr, hlt⟩ := drop_cons e
          rw [List.length_map] at hlt
          rw [List.getElem?_map, List.getElem?_eq_getElem hlt] at hv
          cases hv
          have hx : l[i] < m := hw3 _ (List.getElem_mem hlt)
          generalize hxe : l[i] = x at hx
          have hnx : x ∉ l.take i := by
            intro hm
            obtain ⟨j, hj, e⟩ := List.mem_take_iff_getElem.mp hm
            have := (List.nodup_iff_pairwise_ne.mp hw2)
            rw [List.pairwise_iff_getElem] at this
            exact this j i (by omega) hlt (by omega) (by rw [e, hxe])
          refine AssignW.name (Or.inl rfl) ?_
          simp only [nv]
          walk_at "w"
          refine (is_place_ok P k).call ⟨_, _, rfl, ?_⟩
          walk_at "w"
          refine ite_f (by simp; omega) ?_
          walk_at "w"
          refine CmpW.inI h1 ?_
          walk_at "w"
          refine ite_f (by rw [h2 x hnx]; rfl) ?_
          walk_at "w"
          refine ite_f rfl ?_
          walk_at "w"
          refine SetW.dictI h1 (by omega) ?_
          walk_at "w"
          refine ⟨_, ⟨i + 1, _, n + 1, hr, hlt, by omega, rfl, Hp.set_self .., fun y hy => ?_, Hp.le_set' h3 ha⟩, rfl, rfl, trivial⟩
          rw [List.take_add_one, List.getElem?_eq_getElem hlt] at hy
          have hy1 : y ∉ l.take i := fun h => hy (List.mem_append.mpr (.inl h))
          have : y ≠ x := fun q => hy (List.mem_append.mpr (.inr (by rw [q, hxe]; exact List.mem_singleton.mpr rfl)))
          have : ¬ (y : Int) = (x : Int) := by omega
          simp only [this, if_false]
          exact h2 y hy1
        · rintro l' H' ⟨i, d, n, e, hi, hni, rfl, h1, h2, h3⟩
          walk_at "w"
          exact RetQ.fz (Fz.drop h3) hQ

set_option maxHeartbeats 4000000 in
theorem need_ok (P : PCx C (K2 C)) (k : Nat) : FnOK C (k + 3) (.ref 67) S_need := by
  refine FnOK.ofK (K := K2 C) [Str.ofString "waits"] P.X P.lim rfl (by kernel_rfl) ?_ (by kernel_rfl) (by kernel_rfl) ?_
  · intro vals h
    rcases vals with _ | ⟨a, _ | ⟨b, t⟩⟩ <;> simp at h
    rfl
  · rintro args Q R H ⟨W, rfl, ⟨hW1, hW2, hW3⟩, hQ⟩
    refine ⟨rfl, fun L => ?_⟩
    walk_at "w"
    refine CallW.isi_list rfl ?_
    walk_at "w"
    refine ite_f rfl ?_
    walk_at "w"
    refine CallW.len rfl (by simp; omega) ?_
    walk_at "w"
    refine ite_t (by simp; omega) ?_
    walk_at "w"
    refine EvalW.global (P.globInt (i := 40) (t := 234) (by kernel_rfl)) ?_ rfl
    walk_at "w"
    refine ite_f (by simp; omega) ?_
    walk_at "w"
    refine ite_f rfl ?_
    walk_at "w"
    refine ExecW.for_all true P.hd (fun _ => ⟨_, _, _, rfl⟩) [(Str.ofString "waits", V.lst (W.map wv))] ⟨rfl, trivial⟩ ?_
    refine IterE.enum (P.blt (by kernel_rfl) (by boot_fast)) rfl ?_
    walk_at "w"
    refine ⟨_, rfl, fun _ => True, rfl, ?_, ?_⟩
    · intro i v hv _
      rw [enumV, enumFrom_get, List.getElem?_map] at hv
      cases hw : W[i]? with
      | none => rw [hw] at hv; cases hv
      | some w =>
        rw [hw] at hv; cases hv
        have hmem : w ∈ W := List.mem_of_getElem? hw
        refine AssignW.tuple (.cons (Or.inl rfl) (.cons (Or.inl rfl) .nil)) rfl P.hd ?_
        walk_at "w"
        refine CallW.len rfl (by simp; omega) ?_
        walk_at "w"
        refine (is_wait_ok P k).call ⟨w, W.length, by simp, hW3 w hmem, ?_⟩
        walk_at "w"
        refine ite_f rfl ?_
        walk_at "w"
        exact ⟨trivial, rfl, rfl, trivial⟩
    · intro _
      walk_at "w"
      exact RetQ.here hQ

set_option maxHeartbeats 4000000 in
theorem goes_ok (P : PCx C (K2 C)) (k : Nat) : FnOK C (k + 1) (.ref 72) S_goes := by
  refine FnOK.ofK (K := K2 C) [Str.ofString "wait", Str.ofString "rounds"] P.X P.lim rfl (by kernel_rfl) ?_ (by kernel_rfl) (by kernel_rfl) ?_
  · intro vals h
    rcases vals with _ | ⟨a, _ | ⟨b, _ | ⟨c, t⟩⟩⟩ <;> simp at h
    rfl
  · rintro args Q R H ⟨b, l, r, rv, rfl, hr, hl, hlt, hrl, hQ⟩
    refine ⟨rfl, fun L => ?_⟩
    simp only [wv]
    refine ExecsW.cons ?_
    refine ExecW.assign_compP (fun v => match v with | .int i => some (.bool (r.getD i.toNat none).isSome) | _ => none) rfl rfl P.hd rfl ?_
    refine IterE.list ?_
    walk_at "w"
    refine SubW.tup (by omega) (by omega) rfl ?_
    refine ⟨_, rfl, by simp; omega, fun H' hle => rfl, ?_, ?_⟩
    · intro v hv H' hle
      obtain ⟨x, hx, rfl⟩ := List.mem_map.mp hv
      refine PureStep.map rfl fun L' => ?_
      simp only [nv]
      walk_at "w"
      refine SubW.list (lview_le hle hr) (by omega) (by have := hlt x hx; omega) (u := ov (r.getD x none)) ?_ ?_
      · have := hlt x hx
        simp [this]
      walk_at "w"
      refine CmpW.isNotNone (by cases r.getD x none <;> trivial) ?_
      refine ⟨rfl, ?_⟩
      simp only [Int.toNat_natCast]
      cases r.getD x none <;> rfl
    · have e : (l.map nv).filterMap (fun v => match v with | .int i => some (V.bool (r.getD i.toNat none).isSome) | _ => none) = (l.map fun x => (r.getD x none).isSome).map V.bool := by
        rw [List.filterMap_map, List.map_map]
        rw [← List.filterMap_eq_map]
        congr 1
      rw [e]
      walk_at "w"
      refine SubW.tup (by omega) (by omega) rfl ?_
      walk_at "w"
      cases b
      · refine ite_f rfl ?_
        walk_at "w"
        refine CallW.any P.hd rfl ?_
        walk_at "w"
        exact RetQ.here hQ
      · refine ite_t rfl ?_
        walk_at "w"
        refine CallW.all P.hd rfl ?_
        walk_at "w"
        exact RetQ.here hQ

def waitByL (n s f : Int) : Wt := if n % (if f = 0 then 5 else 9) = 0 then none else some (n / 3 % 2 == 0, othersG 45 900 97 n s (n / 9 % 3).toNat)
def S_wait_by : SpecT := fun args Q R H => ∃ (n f : Int) (s : Nat), args = [.int n, .int s, .int f] ∧ 0 ≤ n ∧ 0 < s ∧ s ≤ 40 ∧ (f = 0 ∨ f = 1) ∧ Q (wv (waitByL n s f)) H
theorem waitByL_ok (n f : Int) (s : Nat) (hs : 0 < s) : WOk s (waitByL n s f) := by
  unfold waitByL
  generalize ((if f = 0 then 5 else 9) : Int) = m
  by_cases hm : n % m = 0
  · rw [if_pos hm]; trivial
  · rw [if_neg hm]; exact waitG_ok _ _ _ _ _ _ _ hs (by omega)

set_option maxHeartbeats 4000000 in
theorem wait_by_ok (P : PCx C (K2 C)) (k : Nat) : FnOK C (k + 1) (.ref 105) S_wait_by := by
  refine FnOK.ofK (K := K2 C) [Str.ofString "_law_number", Str.ofString "_law_size", Str.ofString "_law_few"] P.X P.lim rfl (by kernel_rfl) ?_ (by kernel_rfl) (by kernel_rfl) ?_
  · intro vals h
    rcases vals with _ | ⟨a, _ | ⟨b, _ | ⟨c, _ | ⟨d, t⟩⟩⟩⟩ <;> simp at h
    rfl
  · rintro args Q R H ⟨n, f, s, rfl, hn, hs, hs', hf, hQ⟩
    refine ⟨rfl, fun L => ?_⟩
    walk_at "w"
    refine EvalW.list_fz ?_
    walk_at "w"
    refine ⟨by simp, ?_⟩
    walk_at "w"
    refine SubW.list rfl (by omega) (by omega) (u := .int (if f = 0 then 5 else 9)) (by rcases hf with rfl | rfl <;> rfl) ?_
    refine BinW.mod (by rcases hf with rfl | rfl <;> decide) ?_
    walk_at "w"
    refine ite_w (fun h => ?_) fun h => ?_
    · have h : n % (if f = 0 then 5 else 9) = 0 := by simpa using h
      walk_at "w"
      refine RetQ.here ?_
      unfold waitByL at hQ
      rw [if_pos h] at hQ; exact hQ
    · have h : ¬ n % (if f = 0 then 5 else 9) = 0 := by simpa using h
      unfold waitByL at hQ
      rw [if_neg h] at hQ
      walk_at "w"
      refine EvalW.list ?_
      walk_at "w"
      refine ⟨by simp, fun a ha => ?_⟩
      walk_at "w"
      refine ExecW.for_in false P.hd (fun e => by cases e) ?_
      refine IterE.range (P.blt (by kernel_rfl) (by boot_fast)) rfl ?_
      walk_at "w"
      refine ⟨_, rfl, by omega, by omega, ?_⟩
      refine ⟨fun r l H' => ∃ i : Nat, r = (rangeV (n / 9 % 3).toNat).drop i ∧ i ≤ (n / 9 % 3).toNat ∧ l = [(Str.ofString "_law_number", V.int n), (Str.ofString "_law_size", V.int s), (Str.ofString "_law_others", V.ref a)] ∧ H' a = some (.list ((othersG 45 900 97 n s i).map nv)) ∧ Hp.le H H', ?_, ?_, ?_, ?_⟩
      · refine ⟨_, ⟨0, rfl, Nat.zero_le _, rfl, ?_, Hp.le_set ha⟩, rfl, rfl, rfl, trivial⟩
        rw [Hp.set_self]
        have : ((n / 45 % (s : Int)).toNat : Int) = n / 45 % s := Int.toNat_of_nonneg (Int.emod_nonneg _ (by omega))
        simp [othersG, nv, this]
      · intros; trivial
      · rintro v r l H' ⟨i, e, hi, rfl, h1, h2⟩
        obtain ⟨hv, hr, hlt⟩ := drop_cons e
        rw [ints_length] at hlt
        rw [ints_get hlt] at hv
        cases hv
        refine AssignW.name (Or.inl rfl) ?_
        walk_at "w"
        refine SubW.list (lview_ref h1) (by omega) (by omega) (u := nv (n / 45 % s).toNat) ?_ ?_
        · obtain ⟨t, e⟩ := othersG_head 45 900 97 n s i
          rw [e]; rfl
        have e1 : ((n / 45 % (s : Int)).toNat : Int) = n / 45 % s := Int.toNat_of_nonneg (Int.emod_nonneg _ (by omega))
        rw [nv, e1]
        walk_at "w"
        have e2 : (n / 45 % (s : Int) + 1 + n / (900 + 97 * (i : Int)) % s) % s = (moreG 900 97 n s (n / 45 % s) i : Nat) := (Int.toNat_of_nonneg (Int.emod_nonneg _ (by omega))).symm
        rw [e2]
        generalize hm : moreG 900 97 n s (n / 45 % s) i = m
        walk_at "w"
        refine CmpW.notInN (lview_ref h1) (by omega) ?_
        walk_at "w"
        have e3 : othersG 45 900 97 n s (i + 1) = if m ∈ othersG 45 900 97 n s i then othersG 45 900 97 n s i else othersG 45 900 97 n s i ++ [m] := by rw [← hm]; rfl
        refine ite_w (fun h => ?_) fun h => ?_
        · have h : ¬ m ∈ othersG 45 900 97 n s i := by simpa using h
          rw [if_neg h] at e3
          walk_at "w"
          refine ⟨_, MethIs.append h1, Plainly.builtin _, ?_⟩
          walk_at "w"
          refine CallW.append h1 (by have := othersG_len 45 900 97 n s i; simp; omega) ?_
          walk_at "w"
          refine ⟨_, ⟨i + 1, hr, hlt, rfl, ?_, Hp.le_set' h2 ha⟩, rfl, rfl, rfl, trivial⟩
          rw [Hp.set_self, e3]; simp [nv]
        · have h : m ∈ othersG 45 900 97 n s i := by simpa using h
          rw [if_pos h] at e3
          walk_at "w"
          refine ⟨_, ⟨i + 1, hr, hlt, rfl, ?_, h2⟩, rfl, rfl, rfl, trivial⟩
          rw [e3]; exact h1
      · rintro l H' ⟨i, e, hi, rfl, h1, h2⟩
        have hle := drop_nil e
        rw [ints_length] at hle
        have hi : i = (n / 9 % 3).toNat := by omega
        subst hi
        walk_at "w"
        refine EvalW.list_fz ?_
        walk_at "w"
        refine ⟨by simp, ?_⟩
        walk_at "w"
        refine SubW.list rfl (by omega) (by omega) (u := .str (Str.ofString (if (n / 3 % 2 == 0) = true then "all" else "any"))) ?_ ?_
        · have : n / 3 % 2 = 0 ∨ n / 3 % 2 = 1 := by omega
          rcases this with e | e <;> rw [e] <;> rfl
        walk_at "w"
        refine ⟨?_, by simp⟩
        walk_at "w"
        refine RetQ.fz (Fz.of (D := fun b => b = a) (.tup (.cons (.refl _) (.cons (.thaw rfl h1 (fz_new.FzRL_refl _)) .nil))) h2 (by rintro b rfl; exact ha)) hQ

end Mine

set_option Elab.async false
set_option maxRecDepth 100000
set_option linter.unusedVariables false
namespace Mine
open PySem PySem.W PyProof.Rows

local macro_rules
  | `(tactic| walk_at "v") => `(tactic| with_reducible first
    | (refine gE ?_; first
      | (refine gName ?_; first
        | refine EvalW.local_ (by with_unfolding_all rfl) ?_ (by with_unfolding_all rfl)
        | refine EvalW.cell (by with_unfolding_all rfl) ?_ (by with_unfolding_all rfl)
        | refine EvalW.free (by with_unfolding_all rfl) ?_ (by with_unfolding_all rfl)
        | refine EvalW.global (PCx.blt (by assumption) (by kernel_rfl) (by boot_fast)) ?_ (by with_unfolding_all rfl))
      | (refine gConst ?_; first
        | refine EvalW.int ?_
        | refine EvalW.none ?_
        | refine EvalW.bool ?_
        | refine EvalW.str ?_)
      | (refine gCall ?_; first
        | refine EvalW.callName (x := Str.ofString "is_place") (PCx.glob (v := .ref 53) (by assumption) (by kernel_rfl)) (Plainly.ofK (PCx.X (by assumption)) (by with_unfolding_all rfl)) (by with_unfolding_all rfl) ?_ (hp := by with_unfolding_all rfl)
        | refine EvalW.callName (x := Str.ofString "is_wait") (PCx.glob (v := .ref 60) (by assumption) (by kernel_rfl)) (Plainly.ofK (PCx.X (by assumption)) (by with_unfolding_all rfl)) (by with_unfolding_all rfl) ?_ (hp := by with_unfolding_all rfl)
        | refine EvalW.callName (x := Str.ofString "need") (PCx.glob (v := .ref 67) (by assumption) (by kernel_rfl)) (Plainly.ofK (PCx.X (by assumption)) (by with_unfolding_all rfl)) (by with_unfolding_all rfl) ?_ (hp := by with_unfolding_all rfl)
        | refine EvalW.callName (x := Str.ofString "goes") (PCx.glob (v := .ref 72) (by assumption) (by kernel_rfl)) (Plainly.ofK (PCx.X (by assumption)) (by with_unfolding_all rfl)) (by with_unfolding_all rfl) ?_ (hp := by with_unfolding_all rfl)
        | refine EvalW.callName (x := Str.ofString "freed") (PCx.glob (v := .ref 79) (by assumption) (by kernel_rfl)) (Plainly.ofK (PCx.X (by assumption)) (by with_unfolding_all rfl)) (by with_unfolding_all rfl) ?_ (hp := by with_unfolding_all rfl)
        | refine EvalW.callName (x := Str.ofString "stuck") (PCx.glob (v := .ref 84) (by assumption) (by kernel_rfl)) (Plainly.ofK (PCx.X (by assumption)) (by with_unfolding_all rfl)) (by with_unfolding_all rfl) ?_ (hp := by with_unfolding_all rfl)
        | refine EvalW.callName (x := Str.ofString "_law_cell_at") (PCx.glob (v := .ref 91) (by assumption) (by kernel_rfl)) (Plainly.ofK (PCx.X (by assumption)) (by with_unfolding_all rfl)) (by with_unfolding_all rfl) ?_ (hp := by with_unfolding_all rfl)
        | refine EvalW.callName (x := Str.ofString "_law_mixed") (PCx.glob (v := .ref 98) (by assumption) (by kernel_rfl)) (Plainly.ofK (PCx.X (by assumption)) (by with_unfolding_all rfl)) (by with_unfolding_all rfl) ?_ (hp := by with_unfolding_all rfl)
        | refine EvalW.callName (x := Str.ofString "_law_wait_by") (PCx.glob (v := .ref 105) (by assumption) (by kernel_rfl)) (Plainly.ofK (PCx.X (by assumption)) (by with_unfolding_all rfl)) (by with_unfolding_all rfl) ?_ (hp := by with_unfolding_all rfl)
        | refine EvalW.callName (x := Str.ofString "_law_waits") (PCx.glob (v := .ref 110) (by assumption) (by kernel_rfl)) (Plainly.ofK (PCx.X (by assumption)) (by with_unfolding_all rfl)) (by with_unfolding_all rfl) ?_ (hp := by with_unfolding_all rfl)
        | refine EvalW.callName (x := Str.ofString "_law_copy") (PCx.glob (v := .ref 117) (by assumption) (by kernel_rfl)) (Plainly.ofK (PCx.X (by assumption)) (by with_unfolding_all rfl)) (by with_unfolding_all rfl) ?_ (hp := by with_unfolding_all rfl)
        | refine EvalW.callName (x := Str.ofString "_law_due") (PCx.glob (v := .ref 122) (by assumption) (by kernel_rfl)) (Plainly.ofK (PCx.X (by assumption)) (by with_unfolding_all rfl)) (by with_unfolding_all rfl) ?_ (hp := by with_unfolding_all rfl)
        | refine EvalW.callName (x := Str.ofString "_law_plain") (PCx.glob (v := .ref 127) (by assumption) (by kernel_rfl)) (Plainly.ofK (PCx.X (by assumption)) (by with_unfolding_all rfl)) (by with_unfolding_all rfl) ?_ (hp := by with_unfolding_all rfl)
        | refine EvalW.callName (PCx.blt (by assumption) (by kernel_rfl) (by boot_fast)) (by first | exact Plainly.builtin _ | exact Plainly.type _) (by with_unfolding_all rfl) ?_ (hp := by with_unfolding_all rfl)
        | refine EvalW.method ?_ (by with_unfolding_all rfl) (by with_unfolding_all rfl))
      | refine EvalW.sub ?_
      | refine EvalW.listMul ?_ (by with_unfolding_all rfl)
      | refine EvalW.binop ?_
      | refine EvalW.compare ?_
      | refine EvalW.compare2 ?_
      | refine EvalW.not ?_
      | refine EvalW.and ?_
      | refine EvalW.or ?_
      | refine EvalW.and_one ?_
      | refine EvalW.tuple ?_)
    | (refine gA ?_; first
      | refine ArgsW.cons ?_ (by with_unfolding_all rfl)
      | refine ArgsW.nil ?_)
    | (refine gB ?_; first
      | refine BinW.add ?_
      | refine BinW.mul (by first | exact IntMulOk.of_right (by decide) | exact IntMulOk.of_left (by decide)) ?_
      | refine BinW.mod (by first | decide | omega) ?_
      | refine BinW.floordiv (by first | decide | omega) (by first | decide | omega) ?_
      | refine BinW.sub ?_)
    | (refine gC ?_; first
      | refine CmpW.lt ?_
      | refine CmpW.le ?_
      | refine CmpW.gt ?_
      | refine CmpW.ge ?_
      | refine CmpW.eqI ?_
      | refine CmpW.neI ?_
      | refine CmpW.eqS ?_
      | refine CmpW.neS ?_)
    | refine TruthW.bool ?_
    | (refine gT ?_; first
      | refine TestW.compare ?_
      | refine TestW.compare2 ?_
      | refine TestW.not ?_
      | refine TestW.and ?_
      | refine TestW.or ?_
      | refine TestW.and_nil ?_
      | refine TestW.or_nil ?_
      | refine TestW.plain ?_ (by intro; with_unfolding_all rfl))
    | (refine gX ?_; first
      | refine ExecsW.cons ?_
      | refine ExecsW.nil ?_)
    | refine Cont.next ?_
    | refine Cont.ret ?_
    | (refine gS ?_; first
      | refine ExecW.if_ ?_
      | refine ExecW.ret ?_
      | refine ExecW.assign (Storable.l (by with_unfolding_all rfl)) ?_ (by with_unfolding_all rfl)
      | refine ExecW.assign (Storable.c (by with_unfolding_all rfl) (by with_unfolding_all rfl)) ?_ (by with_unfolding_all rfl)
      | refine ExecW.assign_sub ?_ (by with_unfolding_all rfl)
      | refine ExecW.expr ?_ (by with_unfolding_all rfl) (by with_unfolding_all rfl)))
  | `(tactic| walk_at "w") => `(tactic| repeat walk_at "v")

variable {C : Cx}
set_option maxHeartbeats 4000000 in
theorem freed_ok (P : PCx C (K2 C)) (k : Nat) : FnOK C (k + 4) (.ref 79) S_freed := by
  refine FnOK.ofK (K := K2 C) [Str.ofString "waits"] P.X P.lim rfl (by kernel_rfl) ?_ (by kernel_rfl) (by kernel_rfl) ?_
  · intro vals h
    rcases vals with _ | ⟨a, _ | ⟨b, t⟩⟩ <;> simp at h
    rfl
  · rintro args Q R H ⟨W, rfl, hW, hQ⟩
    have ⟨hW1, hW2, hW3⟩ := hW
    refine ⟨rfl, fun L => ?_⟩
    walk_at "w"
    refine (need_ok P k).call ⟨W, rfl, hW, ?_⟩
    walk_at "w"
    refine CallW.len rfl (by simp; omega) ?_
    refine ⟨_, rfl, by simp only [List.length_map]; omega, by simp only [List.length_map]; omega, fun a ha => ?_⟩
    simp only [List.length_map, Int.toNat_natCast]
    walk_at "w"
    refine ExecW.for_in true P.hd (fun _ => ⟨_, _, _, rfl⟩) ?_
    refine IterE.enum (P.blt (by kernel_rfl) (by boot_fast)) rfl ?_
    walk_at "w"
    refine ⟨_, rfl, fun r l H' => ∃ i : Nat, r = (enumV (W.map wv)).drop i ∧ i ≤ W.length ∧ l = [(Str.ofString "waits", V.lst (W.map wv)), (Str.ofString "rounds", V.ref a)] ∧ H' a = some (.list ((partR W i).map ov)) ∧ Hp.le H H', ?_, ?_, ?_, ?_⟩
    · exact ⟨_, ⟨0, rfl, Nat.zero_le _, rfl, by rw [Hp.set_self, partR_zero], Hp.le_set ha⟩, rfl, rfl, trivial⟩
    · rintro r l H' ⟨i, _⟩; rfl
    · rintro v r l H' ⟨i, e, hi, rfl, h1, h2⟩
      obtain ⟨hv, hr, hlt⟩ := drop_cons e
      rw [enumV_length, List.length_map] at hlt
      obtain ⟨w, hw, hm, rfl⟩ := enum_get hv
      refine AssignW.tuple (.cons (Or.inl rfl) (.cons (Or.inl rfl) .nil)) rfl P.hd ?_
      walk_at "w"
      refine CmpW.isNone (by cases w <;> trivial) ?_
      walk_at "w"
      cases w with
      | none =>
        refine ite_t rfl ?_
        walk_at "w"
        refine SetW.list h1 (by omega) (by rw [List.length_map, partR_length]; omega) (by rw [List.length_map, partR_length]; omega) ?_
        walk_at "w"
        refine ⟨_, ⟨i + 1, hr, hlt, rfl, ?_, Hp.le_set' h2 ha⟩, rfl, rfl, trivial⟩
        rw [Hp.set_self, ← partR_set W i hw, List.map_set]
        rfl
      | some w =>
        refine ite_f rfl ?_
        walk_at "w"
        exact ⟨_, ⟨i + 1, hr, hlt, rfl, by rw [partR_skip W i w hw]; exact h1, h2⟩, rfl, rfl, trivial⟩
    · rintro l H' ⟨i, e, hi, rfl, h1, h2⟩
      have hle := drop_nil e
      rw [enumV_length, List.length_map] at hle
      have hi : i = W.length := by omega
      subst hi
      rw [partR_full] at h1
      walk_at "w"
      refine EvalW.list_fz ?_
      walk_at "w"
      refine ⟨by simp, ?_⟩
      walk_at "w"
      refine ExecW.while_in (fun n l H' => ∃ (t : Nat) (r : List (Option Nat)) (fv : V) (f : List Nat), l = [(Str.ofString "waits", V.lst (W.map wv)), (Str.ofString "rounds", V.ref a), (Str.ofString "turn", V.int t), (Str.ofString "fresh", fv)] ∧ r.length = W.length ∧ (∀ p : Nat, W[p]? = some none → r.getD p none ≠ none) ∧
        H' a = some (.list (r.map ov)) ∧ lview H' fv = some (f.map nv) ∧ Hp.le H H' ∧ ((n = 0 ∧ f = [] ∧ r = freedL W) ∨ ∃ m, n = m + 1 ∧ f ≠ [] ∧ run W n t r = freedL W ∧ cNone r ≤ m)) (W.length + 1) ?_ ?_
      · refine ⟨_, ⟨0, initR W, _, [0], rfl, by simp [initR], initR_some W, h1, rfl, h2, .inr ⟨_, rfl, by simp, rfl, ?_⟩⟩, rfl, rfl, rfl, rfl, trivial⟩
        have := cNone_length (initR W)
        simpa [initR] using this
      · rintro n l H₁ ⟨t, r, fv, f, rfl, hrl, hN, g1, g2, g3, g4⟩
        walk_at "w"
        refine EvalW.list_fz ?_
        walk_at "w"
        refine ⟨by simp, ?_⟩
        refine CmpW.neN g2 lview_nv0 ?_
        walk_at "w"
        rcases g4 with ⟨rfl, rfl, rfl⟩ | ⟨m, rfl, hf, hrun, hc⟩
        · refine ite_f rfl ?_
          walk_at "w"
          exact RetQ.fz (fz_own g1 g3 ha) hQ
        · refine ite_t (by simpa using hf) ?_
          walk_at "w"
          refine EvalW.list ?_
          walk_at "w"
          refine ⟨by simp, fun b hb => ?_⟩
          have hba : b ≠ a := fun q => by rw [q, g1] at hb; cases hb
          have hHb : H b = none := by
            cases hq : H b with
            | none => rfl
            | some o => rw [g3 _ _ hq] at hb; cases hb
          walk_at "w"
          refine ExecW.for_in true P.hd (fun _ => ⟨_, _, _, rfl⟩) ?_
          refine IterE.enum (P.blt (by kernel_rfl) (by boot_fast)) rfl ?_
          walk_at "w"
          refine ⟨_, rfl, fun q l H' => ∃ i : Nat, q = (enumV (W.map wv)).drop i ∧ i ≤ W.length ∧ l = [(Str.ofString "waits", V.lst (W.map wv)), (Str.ofString "rounds", V.ref a), (Str.ofString "turn", V.int ((t + 1 : Nat) : Int)), (Str.ofString "fresh", V.ref b)] ∧
            H' a = some (.list (r.map ov)) ∧ H' b = some (.list ((freshUp W r i).map nv)) ∧ Hp.le H H', ?_, ?_, ?_, ?_⟩
          · exact ⟨_, ⟨0, rfl, Nat.zero_le _, rfl, by rw [Hp.set_ne hba.symm]; exact g1, by rw [Hp.set_self]; rfl, Hp.le_set' g3 hHb⟩, rfl, rfl, rfl, rfl, trivial⟩
          · rintro r l H' ⟨i, _⟩; rfl
          · rintro v q l H' ⟨i, e, hi, rfl, p1, p2, p3⟩
            obtain ⟨hv, hr, hlt⟩ := drop_cons e
            rw [enumV_length, List.length_map] at hlt
            obtain ⟨w, hw, hm, rfl⟩ := enum_get hv
            refine AssignW.tuple (.cons (Or.inl rfl) (.cons (Or.inl rfl) .nil)) rfl P.hd ?_
            walk_at "w"
            refine SubW.list (lview_ref p1) (by omega) (by omega) (u := ov (r.getD i none)) ?_ ?_
            · have : i < r.length := by omega
              simp [this]
            walk_at "w"
            refine CmpW.isNone (by cases r.getD i none <;> trivial) ?_
            walk_at "w"
            have hsucc := freshUp_succ W r i
            have hWd : W.getD i none = w := by simp [List.getD_eq_getElem?_getD, hw]
            rw [hWd] at hsucc
            have stay : ((r.getD i none).isNone && goesW w r) = false → LoopQ (fun l H' => ∃ i : Nat, q = (enumV (W.map wv)).drop i ∧ i ≤ W.length ∧ l = [(Str.ofString "waits", V.lst (W.map wv)), (Str.ofString "rounds", V.ref a), (Str.ofString "turn", V.int ((t + 1 : Nat) : Int)), (Str.ofString "fresh", V.ref b)] ∧
                H' a = some (.list (r.map ov)) ∧ H' b = some (.list ((freshUp W r i).map nv)) ∧ Hp.le H H') (fun _ _ _ => True) .next (setAll (Rho.of [(Str.ofString "waits", V.lst (W.map wv)), (Str.ofString "rounds", V.ref a), (Str.ofString "turn", V.int ((t + 1 : Nat) : Int)), (Str.ofString "fresh", V.ref b)]) [Str.ofString "place", Str.ofString "wait"] [V.int ((i : Nat) : Int), wv w]) H' := fun hc => by
              rw [hc, if_neg (by decide)] at hsucc
              exact ⟨_, ⟨i + 1, hr, hlt, rfl, p1, by rw [hsucc]; exact p2, p3⟩, rfl, rfl, rfl, rfl, trivial⟩
            cases hri : r.getD i none with
            | some t' =>
              rw [hri] at stay
              refine ite_f rfl ?_
              refine ite_f rfl ?_
              walk_at "w"
              exact stay rfl
            | none =>
              rw [hri] at stay hsucc
              refine ite_t rfl ?_
              walk_at "w"
              cases w with
              | none => exact absurd hri (hN i hw)
              | some w =>
                obtain ⟨bb, ll⟩ := w
                obtain ⟨w1, w2, w3, w4⟩ := hW3 _ hm
                refine (goes_ok P _).call ⟨bb, ll, r, _, rfl, lview_ref p1, w4, by rw [hrl]; exact w3, by omega, ?_⟩
                walk_at "w"
                refine ite_w (fun h => ?_) fun h => ?_
                · walk_at "w"
                  refine ite_t rfl ?_
                  walk_at "w"
                  refine ⟨_, MethIs.append p2, Plainly.builtin _, ?_⟩
                  walk_at "w"
                  refine CallW.append p2 (by have := fresh_length W r i; simp; omega) ?_
                  walk_at "w"
                  rw [if_pos (by simpa [goesW] using h)] at hsucc
                  refine ⟨_, ⟨i + 1, hr, hlt, rfl, by rw [Hp.set_ne hba.symm]; exact p1, by rw [Hp.set_self, hsucc]; simp [nv], Hp.le_set' p3 hHb⟩, rfl, rfl, rfl, rfl, trivial⟩
                · refine ite_f rfl ?_
                  walk_at "w"
                  exact stay (by simpa [goesW] using h)
          · rintro l H' ⟨i, e, hi, rfl, p1, p2, p3⟩
            have hle := drop_nil e
            rw [enumV_length, List.length_map] at hle
            have hi : i = W.length := by omega
            subst hi
            generalize hfr : freshUp W r W.length = f' at p2
            walk_at "w"
            refine ExecW.for_in false P.hd (fun e => by cases e) ?_
            refine IterE.list ?_
            walk_at "w"
            refine ⟨_, lview_ref p2, fun q l H' => ∃ i : Nat, q = (f'.map nv).drop i ∧ i ≤ f'.length ∧ l = [(Str.ofString "waits", V.lst (W.map wv)), (Str.ofString "rounds", V.ref a), (Str.ofString "turn", V.int ((t + 1 : Nat) : Int)), (Str.ofString "fresh", V.ref b)] ∧
              H' a = some (.list ((setL (t + 1) r (f'.take i)).map ov)) ∧ H' b = some (.list (f'.map nv)) ∧ Hp.le H H', ?_, ?_, ?_, ?_⟩
            · exact ⟨_, ⟨0, rfl, Nat.zero_le _, rfl, p1, p2, p3⟩, rfl, rfl, rfl, rfl, trivial⟩
            · rintro r l H' ⟨i, _, _, _, _, p2, _⟩; exact lview_ref p2
            · rintro v q l H' ⟨i, e, hi, rfl, p1, p2, p3⟩
              obtain ⟨hv, hr, hlt⟩ := drop_cons e
              rw [List.length_map] at hlt
              rw [List.getElem?_map, List.getElem?_eq_getElem hlt] at hv
              cases hv
              have hmf : ∀ x ∈ f', x < W.length := fun x hx => by rw [← hfr] at hx; exact (mem_fresh.mp hx).1
              have hx : f'[i] < W.length := hmf _ (List.getElem_mem hlt)
              refine AssignW.name (Or.inl rfl) ?_
              simp only [nv]
              walk_at "w"
              refine SetW.list p1 (by omega) (by rw [List.length_map, setL_length]; omega) (by rw [List.length_map, setL_length]; omega) ?_
              walk_at "w"
              refine ⟨_, ⟨i + 1, hr, hlt, rfl, ?_, by rw [Hp.set_ne hba]; exact p2, Hp.le_set' p3 ha⟩, rfl, rfl, rfl, rfl, trivial⟩
              rw [Hp.set_self, List.take_add_one, List.getElem?_eq_getElem hlt, setL_append]
              simp only [Option.toList_some, setL, List.map_set, Int.toNat_natCast]
              rfl
            · rintro l H' ⟨i, e, hi, rfl, p1, p2, p3⟩
              have hle := drop_nil e
              rw [List.length_map] at hle
              rw [List.take_of_length_le hle] at p1
              walk_at "w"
              simp only [run] at hrun
              rw [hfr] at hrun
              by_cases hf' : f' = []
              · rw [if_pos hf'] at hrun
                subst hf'
                refine ⟨_, ⟨0, by omega, t + 1, r, V.ref b, [], rfl, hrl, hN, p1, lview_ref p2, p3, .inl ⟨rfl, rfl, hrun⟩⟩, rfl, rfl, rfl, rfl, trivial⟩
              · rw [if_neg hf'] at hrun
                have hcn := cNone_fresh (W := W) (t + 1) hrl (by rw [hfr]; exact hf')
                rw [hfr] at hcn
                obtain ⟨m', rfl⟩ : ∃ m', m = m' + 1 := ⟨m - 1, by omega⟩
                refine ⟨_, ⟨m' + 1, by omega, t + 1, _, V.ref b, f', rfl, by rw [setL_length]; exact hrl, fun p hp => setL_keep _ _ _ p (hN p hp), p1, lview_ref p2, p3, .inr ⟨m', rfl, hf', hrun, by omega⟩⟩, rfl, rfl, rfl, rfl, trivial⟩

set_option maxHeartbeats 4000000 in
theorem stuck_ok (P : PCx C (K2 C)) (k : Nat) : FnOK C (k + 5) (.ref 84) S_stuck := by
  refine FnOK.ofK (K := K2 C) [Str.ofString "waits"] P.X P.lim rfl (by kernel_rfl) ?_ (by kernel_rfl) (by kernel_rfl) ?_
  · intro vals h
    rcases vals with _ | ⟨a, _ | ⟨b, t⟩⟩ <;> simp at h
    rfl
  · rintro args Q R H ⟨W, rfl, hW, hQ⟩
    have hfl := freedL_length W
    have ⟨hW1, hW2, hW3⟩ := hW
    refine ⟨rfl, fun L => ?_⟩
    walk_at "w"
    refine (freed_ok P k).call ⟨W, rfl, hW, ?_⟩
    walk_at "w"
    refine EvalW.compP (gN fun n => if ((freedL W).getD n none).isNone = true then some (nv n) else none) rfl P.hd rfl ?_
    refine IterE.range (P.blt (by kernel_rfl) (by boot_fast)) rfl ?_
    walk_at "w"
    refine CallW.len rfl (by simp; omega) ?_
    refine ⟨_, rfl, by simp only [List.length_map]; omega, by simp only [List.length_map]; omega, ?_⟩
    simp only [List.length_map, Int.toNat_natCast, hfl]
    refine ⟨by rw [ints_length]; omega, fun _ _ => trivial, ?_, ?_⟩
    · intro v hv H' hle
      rw [rangeV_nv] at hv
      obtain ⟨x, hx, rfl⟩ := List.mem_map.mp hv
      have hx : x < W.length := by simpa using hx
      refine PureStep.filt rfl fun L' => ?_
      simp only [nv]
      walk_at "w"
      refine SubW.list rfl (by omega) (by omega) (u := ov ((freedL W).getD x none)) ?_ ?_
      · have : x < (freedL W).length := by omega
        simp [this]
      walk_at "w"
      refine CmpW.isNone (by cases (freedL W).getD x none <;> trivial) ?_
      walk_at "w"
      refine ⟨rfl, ?_⟩
      cases hr : (freedL W).getD x none with
      | none =>
        refine ite_t rfl ?_
        walk_at "w"
        refine ⟨rfl, ?_⟩
        rw [gN_nv, hr]; rfl
      | some t =>
        refine ite_f rfl ?_
        rw [gN_nv, hr]; rfl
    · walk_at "w"
      refine RetQ.here ?_
      rw [rangeV_nv, fm_gN, fm_filter]
      exact hQ

end Mine

set_option Elab.async false
set_option maxRecDepth 100000
set_option linter.unusedVariables false
namespace Mine
open PySem PySem.W PyProof.Rows

local macro_rules
  | `(tactic| walk_at "v") => `(tactic| with_reducible first
    | (refine gE ?_; first
      | (refine gName ?_; first
        | refine EvalW.local_ (by with_unfolding_all rfl) ?_ (by with_unfolding_all rfl)
        | refine EvalW.cell (by with_unfolding_all rfl) ?_ (by with_unfolding_all rfl)
        | refine EvalW.free (by with_unfolding_all rfl) ?_ (by with_unfolding_all rfl)
        | refine EvalW.global (PCx.blt (by assumption) (by kernel_rfl) (by boot_fast)) ?_ (by with_unfolding_all rfl))
      | (refine gConst ?_; first
        | refine EvalW.int ?_
        | refine EvalW.none ?_
        | refine EvalW.bool ?_
        | refine EvalW.str ?_)
      | (refine gCall ?_; first
        | refine EvalW.callName (x := Str.ofString "is_place") (PCx.glob (v := .ref 53) (by assumption) (by kernel_rfl)) (Plainly.ofK (PCx.X (by assumption)) (by with_unfolding_all rfl)) (by with_unfolding_all rfl) ?_ (hp := by with_unfolding_all rfl)
        | refine EvalW.callName (x := Str.ofString "is_wait") (PCx.glob (v := .ref 60) (by assumption) (by kernel_rfl)) (Plainly.ofK (PCx.X (by assumption)) (by with_unfolding_all rfl)) (by with_unfolding_all rfl) ?_ (hp := by with_unfolding_all rfl)
        | refine EvalW.callName (x := Str.ofString "need") (PCx.glob (v := .ref 67) (by assumption) (by kernel_rfl)) (Plainly.ofK (PCx.X (by assumption)) (by with_unfolding_all rfl)) (by with_unfolding_all rfl) ?_ (hp := by with_unfolding_all rfl)
        | refine EvalW.callName (x := Str.ofString "goes") (PCx.glob (v := .ref 72) (by assumption) (by kernel_rfl)) (Plainly.ofK (PCx.X (by assumption)) (by with_unfolding_all rfl)) (by with_unfolding_all rfl) ?_ (hp := by with_unfolding_all rfl)
        | refine EvalW.callName (x := Str.ofString "freed") (PCx.glob (v := .ref 79) (by assumption) (by kernel_rfl)) (Plainly.ofK (PCx.X (by assumption)) (by with_unfolding_all rfl)) (by with_unfolding_all rfl) ?_ (hp := by with_unfolding_all rfl)
        | refine EvalW.callName (x := Str.ofString "stuck") (PCx.glob (v := .ref 84) (by assumption) (by kernel_rfl)) (Plainly.ofK (PCx.X (by assumption)) (by with_unfolding_all rfl)) (by with_unfolding_all rfl) ?_ (hp := by with_unfolding_all rfl)
        | refine EvalW.callName (x := Str.ofString "_law_cell_at") (PCx.glob (v := .ref 91) (by assumption) (by kernel_rfl)) (Plainly.ofK (PCx.X (by assumption)) (by with_unfolding_all rfl)) (by with_unfolding_all rfl) ?_ (hp := by with_unfolding_all rfl)
        | refine EvalW.callName (x := Str.ofString "_law_mixed") (PCx.glob (v := .ref 98) (by assumption) (by kernel_rfl)) (Plainly.ofK (PCx.X (by assumption)) (by with_unfolding_all rfl)) (by with_unfolding_all rfl) ?_ (hp := by with_unfolding_all rfl)
        | refine EvalW.callName (x := Str.ofString "_law_wait_by") (PCx.glob (v := .ref 105) (by assumption) (by kernel_rfl)) (Plainly.ofK (PCx.X (by assumption)) (by with_unfolding_all rfl)) (by with_unfolding_all rfl) ?_ (hp := by with_unfolding_all rfl)
        | refine EvalW.callName (x := Str.ofString "_law_waits") (PCx.glob (v := .ref 110) (by assumption) (by kernel_rfl)) (Plainly.ofK (PCx.X (by assumption)) (by with_unfolding_all rfl)) (by with_unfolding_all rfl) ?_ (hp := by with_unfolding_all rfl)
        | refine EvalW.callName (x := Str.ofString "_law_copy") (PCx.glob (v := .ref 117) (by assumption) (by kernel_rfl)) (Plainly.ofK (PCx.X (by assumption)) (by with_unfolding_all rfl)) (by with_unfolding_all rfl) ?_ (hp := by with_unfolding_all rfl)
        | refine EvalW.callName (x := Str.ofString "_law_due") (PCx.glob (v := .ref 122) (by assumption) (by kernel_rfl)) (Plainly.ofK (PCx.X (by assumption)) (by with_unfolding_all rfl)) (by with_unfolding_all rfl) ?_ (hp := by with_unfolding_all rfl)
        | refine EvalW.callName (x := Str.ofString "_law_plain") (PCx.glob (v := .ref 127) (by assumption) (by kernel_rfl)) (Plainly.ofK (PCx.X (by assumption)) (by with_unfolding_all rfl)) (by with_unfolding_all rfl) ?_ (hp := by with_unfolding_all rfl)
        | refine EvalW.callName (PCx.blt (by assumption) (by kernel_rfl) (by boot_fast)) (by first | exact Plainly.builtin _ | exact Plainly.type _) (by with_unfolding_all rfl) ?_ (hp := by with_unfolding_all rfl)
        | refine EvalW.method ?_ (by with_unfolding_all rfl) (by with_unfolding_all rfl))
      | refine EvalW.sub ?_
      | refine EvalW.listMul ?_ (by with_unfolding_all rfl)
      | refine EvalW.binop ?_
      | refine EvalW.compare ?_
      | refine EvalW.compare2 ?_
      | refine EvalW.not ?_
      | refine EvalW.and ?_
      | refine EvalW.or ?_
      | refine EvalW.and_one ?_
      | refine EvalW.tuple ?_)
    | (refine gA ?_; first
      | refine ArgsW.cons ?_ (by with_unfolding_all rfl)
      | refine ArgsW.nil ?_)
    | (refine gB ?_; first
      | refine BinW.add ?_
      | refine BinW.mul (by first | exact IntMulOk.of_right (by decide) | exact IntMulOk.of_left (by decide)) ?_
      | refine BinW.mod (by first | decide | omega) ?_
      | refine BinW.floordiv (by first | decide | omega) (by first | decide | omega) ?_
      | refine BinW.sub ?_)
    | (refine gC ?_; first
      | refine CmpW.lt ?_
      | refine CmpW.le ?_
      | refine CmpW.gt ?_
      | refine CmpW.ge ?_
      | refine CmpW.eqI ?_
      | refine CmpW.neI ?_
      | refine CmpW.eqS ?_
      | refine CmpW.neS ?_)
    | refine TruthW.bool ?_
    | (refine gT ?_; first
      | refine TestW.compare ?_
      | refine TestW.compare2 ?_
      | refine TestW.not ?_
      | refine TestW.and ?_
      | refine TestW.or ?_
      | refine TestW.and_nil ?_
      | refine TestW.or_nil ?_
      | refine TestW.plain ?_ (by intro; with_unfolding_all rfl))
    | (refine gX ?_; first
      | refine ExecsW.cons ?_
      | refine ExecsW.nil ?_)
    | refine Cont.next ?_
    | refine Cont.ret ?_
    | (refine gS ?_; first
      | refine ExecW.if_ ?_
      | refine ExecW.ret ?_
      | refine ExecW.assign (Storable.l (by with_unfolding_all rfl)) ?_ (by with_unfolding_all rfl)
      | refine ExecW.assign (Storable.c (by with_unfolding_all rfl) (by with_unfolding_all rfl)) ?_ (by with_unfolding_all rfl)
      | refine ExecW.assign_sub ?_ (by with_unfolding_all rfl)
      | refine ExecW.expr ?_ (by with_unfolding_all rfl) (by with_unfolding_all rfl)))
  | `(tactic| walk_at "w") => `(tactic| repeat walk_at "v")

variable {C : Cx}

def vn : V → Nat
  | .int i => i.toNat
  | _ => 0
def vw : V → Wt
  | .tup [.str s, .lst l] => some (s == Str.ofString "all", l.map vn)
  | _ => none
theorem vw_wv (w : Wt) : vw (wv w) = w := by
  cases w with
  | none => rfl
  | some bl =>
    obtain ⟨b, l⟩ := bl
    have h1 : (l.map nv).map vn = l := by
      rw [List.map_map]
      have : (vn ∘ nv) = id := by funext n; simp [vn, nv]
      rw [this, List.map_id]
    simp only [wv, vw, h1]
    cases b
    · have : (Str.ofString "any" == Str.ofString "all") = false := by decide +kernel
      simp [this]
    · simp
def S_copy : SpecT := fun args Q R H => ∃ W : List Wt, args = [.lst (W.map wv)] ∧ WsOk W ∧ Q (.lst (W.map wv)) H
def S_due : SpecT := fun args Q R H => ∃ (w : Wt) (r : List (Option Nat)) (rv : V), args = [wv w, rv] ∧ lview H rv = some (r.map ov) ∧ WOk r.length w ∧ r.length ≤ 100 ∧ Q (ov (dueV w r)) H
def S_plain : SpecT := fun args Q R H => ∃ W : List Wt, args = [.lst (W.map wv)] ∧ WsOk W ∧ Q (.lst ((plainN W W.length).map ov)) H

set_option maxHeartbeats 4000000 in
theorem copy_ok (P : PCx C (K2 C)) (k : Nat) : FnOK C (k + 1) (.ref 117) S_copy := by
  refine FnOK.ofK (K := K2 C) [Str.ofString "_law_waits_here"] P.X P.lim rfl (by kernel_rfl) ?_ (by kernel_rfl) (by kernel_rfl) ?_
  · intro vals h
    rcases vals with _ | ⟨a, _ | ⟨b, t⟩⟩ <;> simp at h
    rfl
  · rintro args Q R H ⟨W, rfl, ⟨hW1, hW2, hW3⟩, hQ⟩
    refine ⟨rfl, fun L => ?_⟩
    walk_at "w"
    refine EvalW.list ?_
    walk_at "w"
    refine ⟨by simp, fun a ha => ?_⟩
    walk_at "w"
    refine ExecW.for_in false P.hd (fun e => by cases e) ?_
    refine IterE.list ?_
    walk_at "w"
    refine ⟨_, rfl, fun r l H' => ∃ i : Nat, r = (W.map wv).drop i ∧ i ≤ W.length ∧ l = [(Str.ofString "_law_found", V.ref a)] ∧ H' a = some (.list ((W.take i).map wv)) ∧ Hp.le H H', ?_, ?_, ?_, ?_⟩
    · exact ⟨_, ⟨0, rfl, Nat.zero_le _, rfl, Hp.set_self .., Hp.le_set ha⟩, rfl, trivial⟩
    · rintro r l H' _; rfl
    · rintro v r l H' ⟨i, e, hi, rfl, h1, h2⟩
      obtain ⟨hv, hr, hlt⟩ := drop_cons e
      rw [List.length_map] at hlt
      rw [List.getElem?_map, List.getElem?_eq_getElem hlt] at hv
      cases hv
      have hmem : W[i] ∈ W := List.getElem_mem hlt
      have htake : (W.take (i + 1)).map wv = (W.take i).map wv ++ [wv W[i]] := by rw [List.take_add_one, List.getElem?_eq_getElem hlt, List.map_append]; rfl
      have hwok := hW3 _ hmem
      have htl : ((W.take i).map wv).length ≤ 1000 := by simp; omega
      generalize W[i] = w at htake hwok
      refine AssignW.name (Or.inl rfl) ?_
      walk_at "w"
      refine CmpW.isNone (by cases w <;> trivial) ?_
      walk_at "w"
      cases w with
      | none =>
        refine ite_t rfl ?_
        walk_at "w"
        refine ⟨_, MethIs.append h1, Plainly.builtin _, ?_⟩
        walk_at "w"
        refine CallW.append h1 htl ?_
        walk_at "w"
        exact ⟨_, ⟨i + 1, hr, hlt, rfl, by rw [Hp.set_self, htake]; rfl, Hp.le_set' h2 ha⟩, rfl, trivial⟩
      | some w =>
        obtain ⟨b, l⟩ := w
        obtain ⟨w1, w2, w3, w4⟩ := hwok
        refine ite_f rfl ?_
        simp only [wv] at htake ⊢
        walk_at "w"
        refine ⟨_, MethIs.append h1, Plainly.builtin _, ?_⟩
        walk_at "w"
        refine SubW.tup (by omega) (by omega) rfl ?_
        walk_at "w"
        refine SubW.tup (by omega) (by omega) rfl ?_
        walk_at "w"
        refine CallW.listCopyF rfl (by simp; omega) ?_
        walk_at "w"
        refine ⟨?_, by simp⟩
        walk_at "w"
        refine CallW.append h1 htl ?_
        walk_at "w"
        exact ⟨_, ⟨i + 1, hr, hlt, rfl, by rw [Hp.set_self, htake], Hp.le_set' h2 ha⟩, rfl, trivial⟩
    · rintro l H' ⟨i, e, hi, rfl, h1, h2⟩
      have hle := drop_nil e
      rw [List.length_map] at hle
      rw [List.take_of_length_le hle] at h1
      walk_at "w"
      exact RetQ.fz (fz_own h1 h2 ha) hQ

set_option maxHeartbeats 4000000 in
theorem due_ok (P : PCx C (K2 C)) (k : Nat) : FnOK C (k + 1) (.ref 122) S_due := by
  refine FnOK.ofK (K := K2 C) [Str.ofString "_law_wait", Str.ofString "_law_rounds"] P.X P.lim rfl (by kernel_rfl) ?_ (by kernel_rfl) (by kernel_rfl) ?_
  · intro vals h
    rcases vals with _ | ⟨a, _ | ⟨b, _ | ⟨c, t⟩⟩⟩ <;> simp at h
    rfl
  · rintro args Q R H ⟨w, r, rv, rfl, hl, hwok, hrl, hQ⟩
    refine ⟨rfl, fun L => ?_⟩
    cases w with
    | none =>
      walk_at "w"
      refine CmpW.isNone trivial ?_
      walk_at "w"
      refine ite_t rfl ?_
      walk_at "w"
      exact RetQ.here hQ
    | some w =>
      obtain ⟨b, l⟩ := w
      obtain ⟨w1, w2, w3, w4⟩ := hwok
      simp only [wv]
      walk_at "w"
      refine CmpW.isNone trivial ?_
      walk_at "w"
      refine ite_f rfl ?_
      walk_at "w"
      refine ExecW.assign_compP (gN fun n => match r.getD n none with | none => none | some t => some (nv t)) rfl rfl P.hd rfl ?_
      refine IterE.list ?_
      walk_at "w"
      refine SubW.tup (by omega) (by omega) rfl ?_
      refine ⟨_, rfl, by simp; omega, fun H' hle => rfl, ?_, ?_⟩
      · intro v hv H' hle
        obtain ⟨x, hx, rfl⟩ := List.mem_map.mp hv
        have hx := w3 x hx
        have hget : (r.map ov)[(x : Int).toNat]? = some (ov (r.getD x none)) := by simp [hx]
        refine PureStep.filt rfl fun L' => ?_
        simp only [nv]
        walk_at "w"
        refine SubW.list (lview_le hle hl) (by omega) (by omega) hget ?_
        walk_at "w"
        refine CmpW.isNotNone (by cases r.getD x none <;> trivial) ?_
        walk_at "w"
        refine ⟨rfl, ?_⟩
        cases hr : r.getD x none with
        | none =>
          refine ite_f rfl ?_
          rw [gN_nv, hr]
        | some t =>
          rw [hr] at hget
          refine ite_t rfl ?_
          walk_at "w"
          refine SubW.list (lview_le hle hl) (by omega) (by omega) hget ?_
          refine ⟨rfl, ?_⟩
          rw [gN_nv, hr]; rfl
      rw [fm_gN]
      rw [show l.filterMap (fun n => match r.getD n none with | none => none | some t => some (nv t)) = (comeL r l).map nv by
        unfold comeL
        rw [List.map_filterMap]
        congr 1
        funext n
        cases r.getD n none <;> rfl]
      have hcl : (comeL r l).length ≤ l.length := List.length_filterMap_le ..
      have hints : ∀ cs : List Nat, cs.map nv = (cs.map fun (n : Nat) => (n : Int)).map V.int := fun cs => by rw [List.map_map]; rfl
      generalize hcs : comeL r l = cs at hcl
      walk_at "w"
      refine SubW.tup (by omega) (by omega) rfl ?_
      walk_at "w"
      cases b
      · simp only [dueV, hcs] at hQ
        refine ite_t rfl ?_
        walk_at "w"
        refine EvalW.list_fz ?_
        walk_at "w"
        refine ⟨by simp, ?_⟩
        refine CmpW.neN rfl lview_nv0 ?_
        walk_at "w"
        by_cases hne : cs = []
        · subst hne
          rw [if_pos rfl] at hQ
          refine ite_f rfl ?_
          refine ite_f rfl ?_
          walk_at "w"
          refine SubW.tup (by omega) (by omega) rfl ?_
          walk_at "w"
          refine ite_f rfl ?_
          refine ite_f rfl ?_
          walk_at "w"
          exact RetQ.here hQ
        · rw [if_neg hne] at hQ
          refine ite_t (by simpa using hne) ?_
          walk_at "w"
          refine ite_t rfl ?_
          walk_at "w"
          refine CallW.min (ns := cs.map fun (n : Nat) => (n : Int)) P.hd (by rw [← hints]; rfl) (by rw [List.length_map]; exact List.length_pos_iff.mpr hne) fun M hM hle => ?_
          walk_at "w"
          refine RetQ.here ?_
          obtain ⟨m, hm, rfl⟩ := List.mem_map.mp hM
          obtain ⟨m1, m2⟩ := minL_spec cs hne
          have h1 := m2 m hm
          have h2 := hle ((minL cs : Nat) : Int) (List.mem_map.mpr ⟨_, m1, rfl⟩)
          have e : m = minL cs := by omega
          rw [e]
          exact hQ
      · simp only [dueV, hcs] at hQ
        refine ite_f rfl ?_
        refine ite_f rfl ?_
        walk_at "w"
        refine SubW.tup (by omega) (by omega) rfl ?_
        walk_at "w"
        refine ite_t rfl ?_
        walk_at "w"
        refine CallW.len rfl (by simp; omega) ?_
        walk_at "w"
        refine SubW.tup (by omega) (by omega) rfl ?_
        walk_at "w"
        refine CallW.len rfl (by simp; omega) ?_
        walk_at "w"
        simp only [List.length_map]
        by_cases he : cs.length = l.length
        · rw [if_pos he] at hQ
          have hne : cs ≠ [] := fun q => by rw [q] at he; exact w1 (List.length_eq_zero_iff.mp he.symm)
          refine ite_t (by simp [he]) ?_
          walk_at "w"
          refine ite_t rfl ?_
          walk_at "w"
          refine CallW.max (ns := cs.map fun (n : Nat) => (n : Int)) P.hd (by rw [← hints]; rfl) (by rw [List.length_map]; exact List.length_pos_iff.mpr hne) fun M hM hle => ?_
          walk_at "w"
          refine RetQ.here ?_
          obtain ⟨m, hm, rfl⟩ := List.mem_map.mp hM
          obtain ⟨m1, m2⟩ := maxL_spec cs hne
          have h1 := m2 m hm
          have h2 := hle ((maxL cs : Nat) : Int) (List.mem_map.mpr ⟨_, m1, rfl⟩)
          have e : m = maxL cs := by omega
          rw [e]
          exact hQ
        · rw [if_neg he] at hQ
          refine ite_f (by simp; omega) ?_
          refine ite_f rfl ?_
          walk_at "w"
          exact RetQ.here hQ

set_option maxHeartbeats 4000000 in
theorem plain_ok (P : PCx C (K2 C)) (k : Nat) : FnOK C (k + 2) (.ref 127) S_plain := by
  refine FnOK.ofK (K := K2 C) [Str.ofString "_law_waits_here"] P.X P.lim rfl (by kernel_rfl) ?_ (by kernel_rfl) (by kernel_rfl) ?_
  · intro vals h
    rcases vals with _ | ⟨a, _ | ⟨b, t⟩⟩ <;> simp at h
    rfl
  · rintro args Q R H ⟨W, rfl, ⟨hW1, hW2, hW3⟩, hQ⟩
    refine ⟨rfl, fun L => ?_⟩
    walk_at "w"
    refine CallW.len rfl (by simp; omega) ?_
    refine ⟨_, rfl, by simp only [List.length_map]; omega, by simp only [List.length_map]; omega, fun a ha => ?_⟩
    simp only [List.length_map, Int.toNat_natCast]
    walk_at "w"
    refine ExecW.for_in false P.hd (fun e => by cases e) ?_
    refine IterE.range (P.blt (by kernel_rfl) (by boot_fast)) rfl ?_
    walk_at "w"
    refine CallW.len rfl (by simp; omega) ?_
    refine ⟨_, rfl, by simp only [List.length_map]; omega, by simp only [List.length_map]; omega, ?_⟩
    simp only [List.length_map, Int.toNat_natCast]
    refine ⟨fun r l H' => ∃ (i : Nat) (rv : V), r = (rangeV W.length).drop i ∧ i ≤ W.length ∧ l = [(Str.ofString "_law_waits_here", V.lst (W.map wv)), (Str.ofString "_law_rounds", rv)] ∧ lview H' rv = some ((plainN W i).map ov) ∧ Hp.le H H' ∧ (rv = .ref a ∧ i = 0 ∨ rv = .lst ((plainN W i).map ov)), ?_, ?_, ?_, ?_⟩
    · exact ⟨_, ⟨0, _, rfl, Nat.zero_le _, rfl, by rw [lview_ref (Hp.set_self ..)]; simp [plainN, ov], Hp.le_set ha, .inl ⟨rfl, rfl⟩⟩, rfl, rfl, trivial⟩
    · intros; trivial
    · rintro v r l H' ⟨i, rv, e, hi, rfl, h1, h2, _⟩
      obtain ⟨hv, hr, hlt⟩ := drop_cons e
      rw [ints_length] at hlt
      have hpl : (plainN W i).length = W.length := by cases i <;> simp [plainN]
      refine AssignW.name (Or.inl rfl) ?_
      refine ExecsW.cons ?_
      refine ExecW.assign_compP (fun v => some (ov (dueV (vw v) (plainN W i)))) rfl rfl P.hd rfl ?_
      refine IterE.list ?_
      walk_at "w"
      refine ⟨_, rfl, by simp; omega, fun H' hle => rfl, ?_, ?_⟩
      · intro v hv H'' hle
        obtain ⟨w, hw, rfl⟩ := List.mem_map.mp hv
        refine PureStep.map rfl fun L' => ?_
        walk_at "w"
        refine (due_ok P _).call ⟨w, plainN W i, _, rfl, lview_le hle h1, by rw [hpl]; exact hW3 w hw, by omega, ?_⟩
        exact ⟨rfl, by rw [vw_wv]⟩
      rw [show (W.map wv).filterMap (fun v => some (ov (dueV (vw v) (plainN W i)))) = (plainN W (i + 1)).map ov by
        rw [List.filterMap_map, plainN, List.map_map, ← List.filterMap_eq_map]
        congr 1
        funext w
        simp [vw_wv]]
      walk_at "w"
      refine EvalW.compP some rfl P.hd rfl ?_
      refine IterE.list ?_
      walk_at "w"
      refine ⟨_, rfl, by simp [plainN]; omega, fun _ _ => rfl, ?_, ?_⟩
      · intro v hv H' hle
        refine PureStep.map rfl fun L' => ?_
        walk_at "w"
        exact ⟨rfl, rfl⟩
      rw [List.filterMap_some]
      walk_at "w"
      exact ⟨_, ⟨i + 1, _, hr, hlt, rfl, rfl, h2, .inr rfl⟩, rfl, rfl, trivial⟩
    · rintro l H' ⟨i, rv, e, hi, rfl, h1, h2, h3⟩
      have hle := drop_nil e
      rw [ints_length] at hle
      have hi : i = W.length := by omega
      subst hi
      rcases h3 with ⟨_, h3⟩ | rfl
      · omega
      · walk_at "w"
        exact RetQ.fz (Fz.drop h2) hQ
end Mine

set_option Elab.async false
set_option maxRecDepth 100000
set_option linter.unusedVariables false
namespace Mine
open PySem PySem.W PyProof.Rows

local macro_rules
  | `(tactic| walk_at "v") => `(tactic| with_reducible first
    | (refine gE ?_; first
      | (refine gName ?_; first
        | refine EvalW.local_ (by with_unfolding_all rfl) ?_ (by with_unfolding_all rfl)
        | refine EvalW.cell (by with_unfolding_all rfl) ?_ (by with_unfolding_all rfl)
        | refine EvalW.free (by with_unfolding_all rfl) ?_ (by with_unfolding_all rfl)
        | refine EvalW.global (PCx.blt (by assumption) (by kernel_rfl) (by boot_fast)) ?_ (by with_unfolding_all rfl))
      | (refine gConst ?_; first
        | refine EvalW.int ?_
        | refine EvalW.none ?_
        | refine EvalW.bool ?_
        | refine EvalW.str ?_)
      | (refine gCall ?_; first
        | refine EvalW.callName (x := Str.ofString "is_place") (PCx.glob (v := .ref 53) (by assumption) (by kernel_rfl)) (Plainly.ofK (PCx.X (by assumption)) (by with_unfolding_all rfl)) (by with_unfolding_all rfl) ?_ (hp := by with_unfolding_all rfl)
        | refine EvalW.callName (x := Str.ofString "is_wait") (PCx.glob (v := .ref 60) (by assumption) (by kernel_rfl)) (Plainly.ofK (PCx.X (by assumption)) (by with_unfolding_all rfl)) (by with_unfolding_all rfl) ?_ (hp := by with_unfolding_all rfl)
        | refine EvalW.callName (x := Str.ofString "need") (PCx.glob (v := .ref 67) (by assumption) (by kernel_rfl)) (Plainly.ofK (PCx.X (by assumption)) (by with_unfolding_all rfl)) (by with_unfolding_all rfl) ?_ (hp := by with_unfolding_all rfl)
        | refine EvalW.callName (x := Str.ofString "goes") (PCx.glob (v := .ref 72) (by assumption) (by kernel_rfl)) (Plainly.ofK (PCx.X (by assumption)) (by with_unfolding_all rfl)) (by with_unfolding_all rfl) ?_ (hp := by with_unfolding_all rfl)
        | refine EvalW.callName (x := Str.ofString "freed") (PCx.glob (v := .ref 79) (by assumption) (by kernel_rfl)) (Plainly.ofK (PCx.X (by assumption)) (by with_unfolding_all rfl)) (by with_unfolding_all rfl) ?_ (hp := by with_unfolding_all rfl)
        | refine EvalW.callName (x := Str.ofString "stuck") (PCx.glob (v := .ref 84) (by assumption) (by kernel_rfl)) (Plainly.ofK (PCx.X (by assumption)) (by with_unfolding_all rfl)) (by with_unfolding_all rfl) ?_ (hp := by with_unfolding_all rfl)
        | refine EvalW.callName (x := Str.ofString "_law_cell_at") (PCx.glob (v := .ref 91) (by assumption) (by kernel_rfl)) (Plainly.ofK (PCx.X (by assumption)) (by with_unfolding_all rfl)) (by with_unfolding_all rfl) ?_ (hp := by with_unfolding_all rfl)
        | refine EvalW.callName (x := Str.ofString "_law_mixed") (PCx.glob (v := .ref 98) (by assumption) (by kernel_rfl)) (Plainly.ofK (PCx.X (by assumption)) (by with_unfolding_all rfl)) (by with_unfolding_all rfl) ?_ (hp := by with_unfolding_all rfl)
        | refine EvalW.callName (x := Str.ofString "_law_wait_by") (PCx.glob (v := .ref 105) (by assumption) (by kernel_rfl)) (Plainly.ofK (PCx.X (by assumption)) (by with_unfolding_all rfl)) (by with_unfolding_all rfl) ?_ (hp := by with_unfolding_all rfl)
        | refine EvalW.callName (x := Str.ofString "_law_waits") (PCx.glob (v := .ref 110) (by assumption) (by kernel_rfl)) (Plainly.ofK (PCx.X (by assumption)) (by with_unfolding_all rfl)) (by with_unfolding_all rfl) ?_ (hp := by with_unfolding_all rfl)
        | refine EvalW.callName (x := Str.ofString "_law_copy") (PCx.glob (v := .ref 117) (by assumption) (by kernel_rfl)) (Plainly.ofK (PCx.X (by assumption)) (by with_unfolding_all rfl)) (by with_unfolding_all rfl) ?_ (hp := by with_unfolding_all rfl)
        | refine EvalW.callName (x := Str.ofString "_law_due") (PCx.glob (v := .ref 122) (by assumption) (by kernel_rfl)) (Plainly.ofK (PCx.X (by assumption)) (by with_unfolding_all rfl)) (by with_unfolding_all rfl) ?_ (hp := by with_unfolding_all rfl)
        | refine EvalW.callName (x := Str.ofString "_law_plain") (PCx.glob (v := .ref 127) (by assumption) (by kernel_rfl)) (Plainly.ofK (PCx.X (by assumption)) (by with_unfolding_all rfl)) (by with_unfolding_all rfl) ?_ (hp := by with_unfolding_all rfl)
        | refine EvalW.callName (PCx.blt (by assumption) (by kernel_rfl) (by boot_fast)) (by first | exact Plainly.builtin _ | exact Plainly.type _) (by with_unfolding_all rfl) ?_ (hp := by with_unfolding_all rfl)
        | refine EvalW.method ?_ (by with_unfolding_all rfl) (by with_unfolding_all rfl))
      | refine EvalW.sub ?_
      | refine EvalW.listMul ?_ (by with_unfolding_all rfl)
      | refine EvalW.binop ?_
      | refine EvalW.compare ?_
      | refine EvalW.compare2 ?_
      | refine EvalW.not ?_
      | refine EvalW.and ?_
      | refine EvalW.or ?_
      | refine EvalW.and_one ?_
      | refine EvalW.tuple ?_)
    | (refine gA ?_; first
      | refine ArgsW.cons ?_ (by with_unfolding_all rfl)
      | refine ArgsW.nil ?_)
    | (refine gB ?_; first
      | refine BinW.add ?_
      | refine BinW.mul (by first | exact IntMulOk.of_right (by decide) | exact IntMulOk.of_left (by decide)) ?_
      | refine BinW.mod (by first | decide | omega) ?_
      | refine BinW.floordiv (by first | decide | omega) (by first | decide | omega) ?_
      | refine BinW.sub ?_)
    | (refine gC ?_; first
      | refine CmpW.lt ?_
      | refine CmpW.le ?_
      | refine CmpW.gt ?_
      | refine CmpW.ge ?_
      | refine CmpW.eqI ?_
      | refine CmpW.neI ?_
      | refine CmpW.eqS ?_
      | refine CmpW.neS ?_)
    | refine TruthW.bool ?_
    | (refine gT ?_; first
      | refine TestW.compare ?_
      | refine TestW.compare2 ?_
      | refine TestW.not ?_
      | refine TestW.and ?_
      | refine TestW.or ?_
      | refine TestW.and_nil ?_
      | refine TestW.or_nil ?_
      | refine TestW.plain ?_ (by intro; with_unfolding_all rfl))
    | (refine gX ?_; first
      | refine ExecsW.cons ?_
      | refine ExecsW.nil ?_)
    | refine Cont.next ?_
    | refine Cont.ret ?_
    | (refine gS ?_; first
      | refine ExecW.if_ ?_
      | refine ExecW.ret ?_
      | refine ExecW.assign (Storable.l (by with_unfolding_all rfl)) ?_ (by with_unfolding_all rfl)
      | refine ExecW.assign (Storable.c (by with_unfolding_all rfl) (by with_unfolding_all rfl)) ?_ (by with_unfolding_all rfl)
      | refine ExecW.assign_sub ?_ (by with_unfolding_all rfl)
      | refine ExecW.expr ?_ (by with_unfolding_all rfl) (by with_unfolding_all rfl)))
  | `(tactic| walk_at "w") => `(tactic| repeat walk_at "v")

variable {C : Cx}

def S_waits : SpecT := fun args Q R H => ∃ ns : List Int, args = [.lst (ns.map .int)] ∧ ns.length ≤ 100 ∧ ∀ W, WsOk W → Q (.lst (W.map wv)) H
def S_law2 : SpecT := fun args Q R H => ∃ ns : List Int, args = [.lst (ns.map .int)] ∧ ns.length ≤ 100 ∧ Q (.bool true) H

theorem WsOk.set {W : List Wt} (h : WsOk W) (i : Nat) (w : Wt) (hw : WOk W.length w) : WsOk (W.set i w) := by
  obtain ⟨h1, h2, h3⟩ := h
  refine ⟨by simpa using h1, by simpa using h2, ?_⟩
  intro x hx
  rw [List.length_set]
  rcases List.mem_or_eq_of_mem_set hx with q | rfl
  · exact h3 x q
  · exact hw

set_option maxHeartbeats 4000000 in
theorem waits_ok (P : PCx C (K2 C)) (k : Nat) : FnOK C (k + 3) (.ref 110) S_waits := by
  refine FnOK.ofK (K := K2 C) [Str.ofString "_law_script"] P.X P.lim rfl (by kernel_rfl) ?_ (by kernel_rfl) (by kernel_rfl) ?_
  · intro vals h
    rcases vals with _ | ⟨a, _ | ⟨b, t⟩⟩ <;> simp at h
    rfl
  · rintro args Q R H ⟨ns, rfl, hn, hQ⟩
    refine ⟨rfl, fun L => ?_⟩
    walk_at "w"
    refine (cell_ok P _).call ⟨ns, 0, rfl, by omega, hn, ?_⟩
    generalize cellV ns 0 = cell
    refine Cont.next (ExecsW.cons ?_)
    walk_at "v"
    walk_at "v"
    walk_at "v"
    walk_at "v"
    walk_at "v"
    walk_at "v"
    walk_at "v"
    walk_at "v"
    refine Cont.next (ExecsW.seq (fun l H' => H' = H ∧ ∃ s : Nat, 0 < s ∧ s ≤ 40 ∧ l = [(Str.ofString "_law_script", V.lst (ns.map .int)), (Str.ofString "_law_size", V.int s)]) ?_ ?_)
    · walk_at "w"
      refine ite_w (fun h => ?_) fun h => ?_
      · walk_at "w"
        refine ⟨_, ⟨rfl, (1 + cell / 28 % 40).toNat, by omega, by omega, rfl⟩, rfl, ?_, trivial⟩
        show some (V.int _) = some (V.int _)
        rw [Int.toNat_of_nonneg (by omega)]
      · walk_at "w"
        refine ⟨_, ⟨rfl, (1 + cell % 7).toNat, by omega, by omega, rfl⟩, rfl, ?_, trivial⟩
        show some (V.int _) = some (V.int _)
        rw [Int.toNat_of_nonneg (by omega)]
    rintro l H0 ⟨rfl, s, hs0, hs1, rfl⟩
    walk_at "w"
    refine (cell_ok P _).call ⟨ns, 1, rfl, by omega, hn, ?_⟩
    walk_at "w"
    refine CallW.intB ?_
    walk_at "w"
    have hf : (if (cellV ns 1 % 3 == 0) = true then (1 : Int) else 0) = 0 ∨ (if (cellV ns 1 % 3 == 0) = true then (1 : Int) else 0) = 1 := by split <;> omega
    generalize (if (cellV ns 1 % 3 == 0) = true then (1 : Int) else 0) = f at hf
    refine ExecW.assign_compO (gN fun (k : Nat) => some (wv (waitByL (mixG 48271 7919 999983 ns (2 + (k : Int) % 40) k) s f))) rfl rfl P.hd rfl ?_
    refine IterE.range (P.blt (by kernel_rfl) (by boot_fast)) rfl ?_
    walk_at "w"
    refine ⟨_, rfl, by omega, by omega, ?_⟩
    simp only [Int.toNat_natCast]
    refine ⟨by rw [ints_length]; omega, fun _ _ => trivial, ?_, fun a ha => ?_⟩
    · intro v hv H' hle
      rw [rangeV_nv] at hv
      obtain ⟨x, hx, rfl⟩ := List.mem_map.mp hv
      refine PureStep.map rfl fun L' => ?_
      simp only [nv]
      walk_at "w"
      refine (mixed_ok P _).call ⟨ns, _, _, rfl, by omega, hn, ?_⟩
      walk_at "w"
      refine (wait_by_ok P _).call ⟨_, f, s, rfl, (mixG_range _ _ _ (by decide) ..).1, hs0, hs1, hf, ?_⟩
      exact ⟨rfl, by rw [gN_nv]⟩
    rw [rangeV_nv, fm_gN, fm_map]
    obtain ⟨W, hWd⟩ : ∃ W : List Wt, W = (List.range s).map fun (k : Nat) => waitByL (mixG 48271 7919 999983 ns (2 + (k : Int) % 40) k) s f := ⟨_, rfl⟩
    rw [show (List.range s).map (fun (k : Nat) => wv (waitByL (mixG 48271 7919 999983 ns (2 + (k : Int) % 40) k) s f)) = W.map wv by rw [hWd, List.map_map]; rfl]
    have hWl : W.length = s := by rw [hWd]; simp
    have hWok : WsOk W := by
      refine ⟨by omega, by omega, ?_⟩
      rw [hWl]
      intro w hw
      rw [hWd] at hw
      obtain ⟨k, _, rfl⟩ := List.mem_map.mp hw
      exact waitByL_ok _ _ _ hs0
    clear hWd
    walk_at "w"
    refine (cell_ok P _).call ⟨ns, 1, rfl, by omega, hn, ?_⟩
    walk_at "v"
    walk_at "v"
    generalize cellV ns 1 / 3 = wide
    refine Cont.next (ExecsW.seq (fun l H' => ∃ W : List Wt, WsOk W ∧ W.length = s ∧ H' a = some (.list (W.map wv)) ∧ Hp.le H0 H' ∧ l = [(Str.ofString "_law_size", V.int s), (Str.ofString "_law_waits_here", V.ref a), (Str.ofString "_law_wide", V.int wide)]) ?_ ?_)
    · walk_at "w"
      refine ite_w (fun h => ?_) fun h => ?_
      · walk_at "w"
        refine EvalW.list_fz ?_
        walk_at "w"
        refine ⟨by simp, ?_⟩
        walk_at "w"
        refine SubW.list rfl (by omega) (by omega) (u := .str (Str.ofString (if (wide / 4 % 2 == 0) = true then "all" else "any"))) ?_ ?_
        · have : wide / 4 % 2 = 0 ∨ wide / 4 % 2 = 1 := by omega
          rcases this with e | e <;> rw [e] <;> rfl
        walk_at "w"
        refine EvalW.compP (gN fun (k : Nat) => some (nv (((s : Int) + wide / 4 - (k : Int)) % (s : Int)).toNat)) rfl P.hd rfl ?_
        refine IterE.range (P.blt (by kernel_rfl) (by boot_fast)) rfl ?_
        walk_at "w"
        refine ⟨_, rfl, by omega, by omega, ?_⟩
        simp only [Int.toNat_natCast]
        refine ⟨by rw [ints_length]; omega, fun _ _ => trivial, ?_, ?_⟩
        · intro v hv H' hle
          rw [rangeV_nv] at hv
          obtain ⟨x, hx, rfl⟩ := List.mem_map.mp hv
          refine PureStep.map rfl fun L' => ?_
          simp only [nv]
          walk_at "w"
          refine ⟨rfl, ?_⟩
          rw [gN_nv]
          show some (V.int _) = some (V.int _)
          rw [Int.toNat_of_nonneg (Int.emod_nonneg _ (by omega))]
        rw [rangeV_nv, fm_gN, fm_map]
        rw [show (List.range s).map (fun (k : Nat) => nv (((s : Int) + wide / 4 - (k : Int)) % (s : Int)).toNat) = (backL s (wide / 4)).map nv by unfold backL; rw [List.map_map]; rfl]
        walk_at "w"
        refine ⟨?_, by simp⟩
        walk_at "w"
        have hr1 := Int.emod_nonneg (wide / 4) (b := (s : Int)) (by omega)
        have hr2 := Int.emod_lt_of_pos (wide / 4) (b := (s : Int)) (by omega)
        refine SetW.list (Hp.set_self ..) hr1 (by simp only [List.length_map]; omega) (by simp only [List.length_map]; omega) ?_
        walk_at "w"
        refine ⟨_, ⟨W.set (wide / 4 % (s : Int)).toNat (some (wide / 4 % 2 == 0, backL s (wide / 4))), hWok.set _ _ (by rw [hWl]; exact backL_ok _ _ _ hs0 (by omega)), by simpa using hWl, by rw [Hp.set_self, List.map_set]; rfl, Hp.le_set' (Hp.le_set ha) ha, rfl⟩, rfl, rfl, rfl, trivial⟩
      · walk_at "w"
        exact ⟨_, ⟨W, hWok, hWl, Hp.set_self .., Hp.le_set ha, rfl⟩, rfl, rfl, rfl, trivial⟩
    clear hWok hWl
    clear W
    rintro l H1 ⟨W, hWok, hWl, g1, g2, rfl⟩
    refine ExecsW.seq (fun l H' => ∃ (W : List Wt) (b : Addr), WsOk W ∧ H0 b = none ∧ H' b = some (.list (W.map wv)) ∧ Hp.le H0 H' ∧ l = [(Str.ofString "_law_waits_here", V.ref b)]) ?_ ?_
    · walk_at "w"
      refine ite_w (fun h => ?_) fun h => ?_
      · walk_at "w"
        refine EvalW.compO (gN fun (k : Nat) => some (wv (some (false, [k + 1])))) rfl P.hd rfl ?_
        refine IterE.range (P.blt (by kernel_rfl) (by boot_fast)) rfl ?_
        walk_at "w"
        refine ⟨_, rfl, by omega, by omega, ?_⟩
        rw [show ((s : Int) - 1).toNat = s - 1 by omega]
        refine ⟨by rw [ints_length]; omega, fun _ _ => trivial, ?_, fun b hb => ?_⟩
        · intro v hv H' hle
          rw [rangeV_nv] at hv
          obtain ⟨x, hx, rfl⟩ := List.mem_map.mp hv
          refine PureStep.map rfl fun L' => ?_
          simp only [nv]
          walk_at "w"
          refine EvalW.list_fz ?_
          walk_at "w"
          refine ⟨by simp, ?_⟩
          walk_at "w"
          refine ⟨⟨rfl, ?_⟩, by simp⟩
          rw [gN_nv]; rfl
        rw [rangeV_nv, fm_gN, fm_map]
        refine EvalW.list ?_
        walk_at "w"
        refine ⟨by simp, fun c hc => ?_⟩
        have hcb : c ≠ b := fun q => by rw [q, Hp.set_self] at hc; cases hc
        refine BinW.addL (lview_ref (by rw [Hp.set_ne hcb.symm, Hp.set_self])) (lview_ref (Hp.set_self ..)) (by simp; omega) fun d hd => ?_
        have hdc : d ≠ c := fun q => by rw [q, Hp.set_self] at hd; cases hd
        have hdb : d ≠ b := fun q => by rw [q, Hp.set_ne hcb.symm, Hp.set_self] at hd; cases hd
        have hH1c : H1 c = none := by rw [Hp.set_ne hcb] at hc; exact hc
        have hH1d : H1 d = none := by rw [Hp.set_ne hdc, Hp.set_ne hdb] at hd; exact hd
        have back : ∀ x, H1 x = none → H0 x = none := fun x hx => by
          cases hq : H0 x with
          | none => rfl
          | some o => rw [g2 _ _ hq] at hx; cases hx
        walk_at "w"
        refine ⟨_, ⟨(List.range (s - 1)).map (fun (k : Nat) => some (false, [k + 1])) ++ [none], d, ?_, back d hH1d, ?_, Hp.le_set' (Hp.le_set' (Hp.le_set' g2 (back b hb)) (back c hH1c)) (back d hH1d), rfl⟩, rfl, trivial⟩
        · have hl : ((List.range (s - 1)).map (fun (k : Nat) => (some (false, [k + 1]) : Wt)) ++ [none]).length = s := by simp; omega
          refine ⟨by omega, by omega, ?_⟩
          rw [hl]
          intro w hw
          rcases List.mem_append.mp hw with q | q
          · obtain ⟨k, hk, rfl⟩ := List.mem_map.mp q
            have hk : k < s - 1 := by simpa using hk
            refine ⟨by simp, by simp, ?_, by simp⟩
            intro x hx; simp at hx; omega
          · simp at q; subst q; trivial
        · rw [Hp.set_self, List.map_append, List.map_map]; rfl
      · walk_at "w"
        exact ⟨_, ⟨W, a, hWok, ha, g1, g2, rfl⟩, rfl, trivial⟩
    rintro l H2 ⟨W, b, hWok, hb, k1, k2, rfl⟩
    walk_at "w"
    exact RetQ.fz (fz_own k1 k2 hb) (hQ W hWok)

set_option maxHeartbeats 4000000 in
theorem law_ok (P : PCx C (K2 C)) (k : Nat) : FnOK C (k + 6) (.ref 132) S_law2 := by
  refine FnOK.ofK (K := K2 C) [Str.ofString "_law_script"] P.X P.lim rfl (by kernel_rfl) ?_ (by kernel_rfl) (by kernel_rfl) ?_
  · intro vals h
    rcases vals with _ | ⟨a, _ | ⟨b, t⟩⟩ <;> simp at h
    rfl
  · rintro args Q R H ⟨ns, rfl, hn, hQ⟩
    refine ⟨rfl, fun L => ?_⟩
    walk_at "w"
    refine (waits_ok P _).call ⟨ns, rfl, hn, fun W hWok => ?_⟩
    have ⟨hW1, hW2, hW3⟩ := hWok
    have hfl := freedL_length W
    have hpf := plain_freed hW3
    walk_at "w"
    refine (copy_ok P _).call ⟨W, rfl, hWok, ?_⟩
    walk_at "w"
    refine (freed_ok P _).call ⟨W, rfl, hWok, ?_⟩
    walk_at "w"
    refine CmpW.neWs rfl rfl ?_
    walk_at "w"
    refine ite_f rfl ?_
    walk_at "w"
    refine CallW.isi_list rfl ?_
    walk_at "w"
    refine ite_f rfl ?_
    walk_at "w"
    refine CallW.len rfl (by simp; omega) ?_
    walk_at "w"
    refine CallW.len rfl (by simp; omega) ?_
    walk_at "w"
    refine ite_f (by simp [hfl]) ?_
    walk_at "w"
    refine ite_f rfl ?_
    walk_at "w"
    refine ExecW.for_all false P.hd (fun e => by cases e) [(Str.ofString "_law_waits_here", V.lst (W.map wv)), (Str.ofString "_law_handed", V.lst (W.map wv)), (Str.ofString "_law_rounds", V.lst ((freedL W).map ov))] ⟨rfl, rfl, rfl, trivial⟩ ?_
    refine IterE.list ?_
    walk_at "w"
    refine ⟨_, rfl, fun _ => True, rfl, ?_, ?_⟩
    · intro i v hv _
      rw [List.getElem?_map] at hv
      cases hw : (freedL W)[i]? with
      | none => rw [hw] at hv; cases hv
      | some o =>
        rw [hw] at hv; cases hv
        refine AssignW.name (Or.inl rfl) ?_
        walk_at "w"
        refine CmpW.isNotNone (by cases o <;> trivial) ?_
        walk_at "w"
        cases o with
        | none =>
          refine ite_f rfl ?_
          refine ite_f rfl ?_
          walk_at "w"
          exact ⟨trivial, rfl, rfl, rfl, rfl, trivial⟩
        | some t =>
          refine ite_t rfl ?_
          simp only [ov]
          walk_at "w"
          refine CallW.isi_int rfl ?_
          walk_at "w"
          refine ite_f rfl ?_
          walk_at "w"
          refine CallW.isi_bool rfl ?_
          walk_at "w"
          refine ite_f rfl ?_
          walk_at "w"
          refine ite_f (by simp) ?_
          walk_at "w"
          refine ite_f rfl ?_
          refine ite_f rfl ?_
          walk_at "w"
          exact ⟨trivial, rfl, rfl, rfl, rfl, trivial⟩
    · intro _
      walk_at "w"
      refine (plain_ok P _).call ⟨W, rfl, hWok, ?_⟩
      rw [hpf]
      refine CmpW.neOself rfl rfl ?_
      walk_at "w"
      refine ite_f rfl ?_
      walk_at "w"
      refine (stuck_ok P _).call ⟨W, rfl, hWok, ?_⟩
      have hsl : (stuckL W).length ≤ 1000 := by
        unfold stuckL; exact Nat.le_trans (List.length_filter_le ..) (by simp; omega)
      walk_at "w"
      refine CmpW.neWs rfl rfl ?_
      walk_at "w"
      refine ite_f rfl ?_
      walk_at "w"
      refine CallW.isi_list rfl ?_
      walk_at "w"
      refine ite_f rfl ?_
      walk_at "w"
      refine ite_f rfl ?_
      walk_at "w"
      refine EvalW.compP (gN fun _ => none) rfl P.hd rfl ?_
      refine IterE.list ?_
      walk_at "w"
      refine ⟨_, rfl, by simpa using hsl, fun _ _ => rfl, ?_, ?_⟩
      · intro v hv H' hle
        obtain ⟨x, hx, rfl⟩ := List.mem_map.mp hv
        refine PureStep.filt rfl fun L' => ?_
        simp only [nv]
        walk_at "w"
        refine CallW.isi_bool rfl ?_
        walk_at "w"
        refine ite_f rfl ?_
        walk_at "w"
        refine CallW.isi_int rfl ?_
        walk_at "w"
        refine ite_f rfl ?_
        walk_at "w"
        refine ⟨rfl, ?_⟩
        refine ite_f rfl ?_
        rw [gN_nv]
      rw [fm_gN]
      rw [show (stuckL W).filterMap (fun _ => (none : Option V)) = ([] : List Nat).map nv by rw [List.filterMap_eq_nil_iff.mpr (fun _ _ => rfl)]; rfl]
      refine EvalW.list_fz ?_
      walk_at "w"
      refine ⟨by simp, ?_⟩
      refine CmpW.neN rfl lview_nv0 ?_
      walk_at "w"
      refine ite_f rfl ?_
      walk_at "w"
      refine EvalW.compP (gN fun n => if ((freedL W).getD n none).isNone = true then some (nv n) else none) rfl P.hd rfl ?_
      refine IterE.range (P.blt (by kernel_rfl) (by boot_fast)) rfl ?_
      walk_at "w"
      refine CallW.len rfl (by simp; omega) ?_
      refine ⟨_, rfl, by simp only [List.length_map]; omega, by simp only [List.length_map]; omega, ?_⟩
      simp only [List.length_map, Int.toNat_natCast]
      refine ⟨by rw [ints_length]; omega, fun _ _ => trivial, ?_, ?_⟩
      · intro v hv H' hle
        rw [rangeV_nv] at hv
        obtain ⟨x, hx, rfl⟩ := List.mem_map.mp hv
        have hx : x < W.length := by simpa using hx
        have hxf : x < (freedL W).length := by omega
        refine PureStep.filt rfl fun L' => ?_
        simp only [nv]
        walk_at "w"
        refine SubW.list rfl (by omega) (by omega) (u := ov ((freedL W).getD x none)) (by simp [hxf]) ?_
        walk_at "w"
        refine CmpW.isNone (by cases (freedL W).getD x none <;> trivial) ?_
        walk_at "w"
        refine ⟨rfl, ?_⟩
        cases hr : (freedL W).getD x none with
        | none =>
          refine ite_t rfl ?_
          walk_at "w"
          refine ⟨rfl, ?_⟩
          rw [gN_nv, hr]; rfl
        | some t =>
          refine ite_f rfl ?_
          rw [gN_nv, hr]; rfl
      rw [rangeV_nv, fm_gN, fm_filter]
      refine CmpW.eqN rfl rfl ?_
      walk_at "w"
      refine RetQ.here ?_
      rw [show (stuckL W == (List.range W.length).filter fun p => ((freedL W).getD p none).isNone) = true by simp [stuckL]]
      exact hQ
end Mine

open PySem PySem.W PyProof.Rows
set_option Elab.async false
set_option maxRecDepth 100000
set_option maxHeartbeats 8000000
theorem PySem.Challenge.cw_uf060008_02_holds : PySem.Challenge.rw_uf060008_02.Holds :=
  Mine.hd02 (by
  k_fill
  intro w s₀ s₁ mg mb G Y fa o pm cd doc dV kV ho hd hcd hD hmg hg args vals as hpre hlay hrd hwl hlo
  have KX := kIn_of Y
  have X := (Ground.X G).1
  have V := (Ground.X G).2
  refine Ground.open G ?_
  intro T B D TE TW
  try (refine guard_noD D (by decide +kernel) ?_; clear D)
  wrow_args hpre hlay hrd hwl hlo
  rename_i ns _ _ _ _ _ _ _ a vals _ hL _ _ _ hI _ hlen _
  refine enter_call ?_
  have hfa := mg_of KX T.g (n := Str.ofString "law") (v := .ref 132) (by kernel_rfl)
  have efa : Value.ref fa = .ref 132 := Option.some.inj (hmg.symm.trans hfa)
  rw [efa]
  obtain ⟨_, ⟨oc, _, _, hoc, _⟩, _⟩ := T.nodigits
  have P : Mine.PCx ⟨PySem.Challenge.rw_uf060008_02.row.prog, w, s₁.heap, s₁.os, true, ⟨oc, hoc⟩⟩ (Mine.hd02.heap_39 w.params) := ⟨KX, T.nolimit, ⟨mg, mb, T.g, T.b, T.builtins⟩, rfl⟩
  exact Mine.law_glue ⟨oc, hoc⟩ hg hL hI (Mine.law_ok (C := ⟨PySem.Challenge.rw_uf060008_02.row.prog, w, s₁.heap, s₁.os, true, ⟨oc, hoc⟩⟩) P 0) (by decide) ⟨ns, rfl, by omega, rfl⟩ (fun _ => rfl) (by with_unfolding_all rfl))

