import PyProof.Rows.All
import PyProof.Raises
import PyProof.Calls
import PyProof.AssignAttr
import PyProof.FactsAll.list_3
import PyProof.FactsAll.list_4
import PyProof.FactsAll.dict_3
import PyProof.FactsAll.dict_4
import PyProof.AutoListH
import PyProof.AutoSeq1
import PyProof.SliceSyntax
import PyProof.SliceList
import PyProof.ForAny
import PyProof.CallType
import PyProof.Cells
import PyProof.CompMap
import PyProof.PlainList
import PyProof.ConsumeWalk
import PyProof.CompFree
import PyProof.Conv_int_bool
import PyProof.DefCall
import PyProof.MeetsSeq
import PyProof.MeetsIn
import PyProof.DictKinds
import PyProof.DictRoads
import PyProof.DictStraight
import PyProof.DictUpdate
import PyProof.DictTable
import PyProof.EnumFor
import PyProof.EnumMake
import PyProof.RangeIter
import PyProof.WalksMore
import PyProof.RangeFor
import PyProof.ForRange
import PyProof.IsiHeapPairs
import PyProof.IsiNone
import PyProof.IsiPairs
import PyProof.LetGo
import PyProof.ListCopy
import PyProof.ListMulRoad
import PyProof.ListRange
import PyProof.ListTruth
import PyProof.WalkInts
import PyProof.P3In
import PyProof.Rows.News
import PyProof.Rows.TupAssign
import PyProof.Rows.TupSub
import PyProof.Rows.Lst
import PyProof.Rows.IntRules
import PyProof.Rows.AttrNodeAny
import PyProof.Rows.Chain
import PyProof.Rows.Nodes
import PyProof.Rows.RuleU_int
import PyProof.Rows.RuleB_mul
import PyProof.Rows.RuleB_floordiv
import PyProof.Rows.RuleB_mod
import PyProof.Rows.SeqSlice
import PyProof.Rows.Method
import PyProof.Rows.StrTemp
import PyProof.Rows.ListMul
import PyProof.Rows.RuleC_int
import PyProof.Rows.RuleIs
import PyProof.Rows.TupMore
import PyProof.SliceMore
import PyProof.Rows.StrRules
import PyProof.Rows.EqDataRows
import PyProof.Rows.InDataRows
import PyProof.Rows.SeqMore
import PyProof.Rows.MinMaxN
import PyProof.Rows.SortWalk
import OpenK.KMake
import OpenK.KCls
import OpenK.KWalk
import OpenK.KCell
import KE.KItem
import KE.KRevIter
import Wide.All
import OpenK.AllK
import Wide.FinOn
import Lean
import PySem.Challenge.RW_uf060008_08

set_option Elab.async false
set_option linter.unusedVariables false
namespace Mine
open PySem

inductive V where
  | none
  | bool (b : Bool)
  | int (i : Int)
  | str (s : Str)
  | tup (l : List V)
  | lst (l : List V)
  | ref (a : Addr)
  | con (v : Value)
  deriving Inhabited

inductive O where
  | list (l : List V)
  | dictI (m : Int → Option V) (n : Nat)
  | dictS (m : Str → Option V) (n : Nat)
  | inst (c d : Addr)
  | ns (m : Str → Option V) (n : Nat)

abbrev Hp := Addr → Option O
abbrev Rho := Str → Option V
def Hp.set (H : Hp) (a : Addr) (o : O) : Hp := fun b => if b = a then some o else H b
def Hp.del (H : Hp) (a : Addr) : Hp := fun b => if b = a then none else H b
def Rho.set (ρ : Rho) (x : Str) (v : V) : Rho := fun y => if y = x then some v else ρ y

mutual
inductive VRel (h : Heap) (H : Hp) : V → Value → Prop
  | none : VRel h H .none .none
  | bool (b : Bool) : VRel h H (.bool b) (.bool b)
  | int (i : Int) (t : Tok) : VRel h H (.int i) (.int i t)
  | str (s : Str) (t : Tok) : VRel h H (.str s) (.str s t)
  | tup {a : Addr} {l : List V} {xs : Array Value} (ha : h.IsTuple a xs) (ho : H a = none) (hl : VRelL h H l xs.toList) : VRel h H (.tup l) (.ref a)
  | lst {a : Addr} {l : List V} {xs : Array Value} (ha : h.IsList a xs) (ho : H a = none) (hl : VRelL h H l xs.toList) : VRel h H (.lst l) (.ref a)
  | ref (a : Addr) : VRel h H (.ref a) (.ref a)
  | con (v : Value) : VRel h H (.con v) v
inductive VRelL (h : Heap) (H : Hp) : List V → List Value → Prop
  | nil : VRelL h H [] []
  | cons {v : V} {x : Value} {l : List V} {xs : List Value} (hv : VRel h H v x) (hl : VRelL h H l xs) : VRelL h H (v :: l) (x :: xs)
end

/-- what may change between two states: owned objects; new objects may come -/
structure Ext (H : Hp) (h : Heap) (H' : Hp) (h' : Heap) : Prop where
  keep : ∀ a o, h.get? a = some o → H a = none → h'.get? a = some o
  grow : ∀ a o, h.get? a = some o → H a = none → H' a = none
  live : ∀ a o, h.get? a = some o → ∃ o', h'.get? a = some o'

theorem Ext.refl (H : Hp) (h : Heap) : Ext H h H h := ⟨fun _ _ e _ => e, fun _ _ _ e => e, fun _ o e => ⟨o, e⟩⟩
theorem Ext.trans {H h H' h' H'' h''} (x : Ext H h H' h') (y : Ext H' h' H'' h'') : Ext H h H'' h'' :=
  ⟨fun a o e n => y.keep a o (x.keep a o e n) (x.grow a o e n), fun a o e n => y.grow a o (x.keep a o e n) (x.grow a o e n), fun a o e => let ⟨o', e'⟩ := x.live a o e; y.live a o' e'⟩

/-- lists and tuples that nobody owns stay -/
def ExtV (H : Hp) (h : Heap) (H' : Hp) (h' : Heap) : Prop :=
  ∀ a o xs n, h.get? a = some o → o.data = .seq xs n → H a = none → h'.get? a = some o ∧ H' a = none
theorem Ext.v {H h H' h'} (E : Ext H h H' h') : ExtV H h H' h' := fun a o _ _ e _ n => ⟨E.keep a o e n, E.grow a o e n⟩
/-- one object that is neither list nor tuple is changed -/
theorem ExtV.but {H : Hp} {h h' : Heap} {b : Addr} {ob : Obj} (hb : h.get? b = some ob) (nb : ∀ xs n, ob.data ≠ .seq xs n) (e : ∀ a o, a ≠ b → h.get? a = some o → h'.get? a = some o) : ExtV H h H h' :=
  fun a o xs n ea d m => ⟨e a o (fun q => by subst q; rw [hb] at ea; cases ea; exact nb _ _ d) ea, m⟩

mutual
theorem VRel.extV {H h H' h'} (E : ExtV H h H' h') : ∀ {v x}, VRel h H v x → VRel h' H' v x
  | _, _, .none => .none
  | _, _, .bool b => .bool b
  | _, _, .int i t => .int i t
  | _, _, .str i t => .str i t
  | _, _, .tup ha ho hl => .tup (let ⟨o, e, c, n, r⟩ := ha; ⟨o, (E _ _ _ _ e r ho).1, c, n, r⟩) (let ⟨o, e, c, n, r⟩ := ha; (E _ _ _ _ e r ho).2) (VRelL.extV E hl)
  | _, _, .lst ha ho hl => .lst (let ⟨o, e, c, n, r⟩ := ha; ⟨o, (E _ _ _ _ e r ho).1, c, n, r⟩) (let ⟨o, e, c, n, r⟩ := ha; (E _ _ _ _ e r ho).2) (VRelL.extV E hl)
  | _, _, .ref a => .ref a
  | _, _, .con v => .con v
theorem VRelL.extV {H h H' h'} (E : ExtV H h H' h') : ∀ {v x}, VRelL h H v x → VRelL h' H' v x
  | _, _, .nil => .nil
  | _, _, .cons hv hl => .cons (hv.extV E) (VRelL.extV E hl)
end
theorem VRel.ext {H h H' h'} (E : Ext H h H' h') {v x} (r : VRel h H v x) : VRel h' H' v x := r.extV E.v
theorem VRelL.ext {H h H' h'} (E : Ext H h H' h') {v x} (r : VRelL h H v x) : VRelL h' H' v x := r.extV E.v
theorem VRelL.length {h H} : ∀ {l xs}, VRelL h H l xs → xs.length = l.length
  | _, _, .nil => rfl
  | _, _, .cons _ hl => by simp [hl.length]
theorem VRelL.append {h H} : ∀ {l xs l' xs'}, VRelL h H l xs → VRelL h H l' xs' → VRelL h H (l ++ l') (xs ++ xs')
  | _, _, _, _, .nil, y => y
  | _, _, _, _, .cons hv hl, y => .cons hv (hl.append y)
theorem VRelL.get {h H} : ∀ {l xs} {i : Nat} {v : V}, VRelL h H l xs → l[i]? = some v → ∃ x, xs[i]? = some x ∧ VRel h H v x
  | _, _, i, v, .nil, e => by simp at e
  | _, _, 0, v, .cons hv hl, e => by simp at e; subst e; exact ⟨_, rfl, hv⟩
  | _, _, i + 1, v, .cons hv hl, e => by simp at e; simpa using hl.get e
theorem VRelL.set {h H} : ∀ {l xs} {i : Nat} {v : V} {x : Value}, VRelL h H l xs → VRel h H v x → VRelL h H (l.set i v) (xs.set i x)
  | _, _, i, v, x, .nil, _ => .nil
  | _, _, 0, v, x, .cons hv hl, r => .cons r hl
  | _, _, i + 1, v, x, .cons hv hl, r => .cons hv (hl.set r)
structure Cx where
  prog : Program
  w : World
  base : Heap
  os : OsState
  hd : Bool
  low : ∃ o, base.get? cStatics = some o

abbrev Cx.M (C : Cx) : Model := model C.prog C.w

def OptRel (h : Heap) (H : Hp) : Option V → Option Value → Prop
  | some v, some x => VRel h H v x
  | none, none => True
  | _, _ => False
theorem OptRel.extV {H h H' h'} (E : ExtV H h H' h') : ∀ {v x}, OptRel h H v x → OptRel h' H' v x
  | some _, some _, r => VRel.extV E r
  | none, none, _ => trivial

def ORel (C : Cx) (h : Heap) (H : Hp) (a : Addr) : O → Prop
  | .list l => ∃ xs, h.PlainList a xs ∧ VRelL h H l xs.toList
  | .dictI m n => ∃ kvs, h.DictOf (intKind C.prog C.w) a kvs ∧ kvs.length ≤ n ∧ ∀ k, OptRel h H (m k) (valueAt kvs k)
  | .dictS m n => ∃ kvs, h.DictOf (strKind C.prog C.w) a kvs ∧ kvs.length ≤ n ∧ ∀ k, OptRel h H (m k) (valueAt kvs k)
  | .inst c d => h.get? a = some { cls := .ref c, dict := some d, data := .plain }
  | .ns m n => ∃ o es ep, h.get? a = some o ∧ o.data = .dict es ep ∧ StrKeys es ∧ es.size ≤ n ∧ ∀ k, OptRel h H (m k) (nsFind es k)

structure Sim (C : Cx) (H : Hp) (s : Shared) : Prop where
  keep : ∀ b o, C.base.get? b = some o → s.heap.get? b = some o
  gens : s.gens = #[]
  os : s.os = C.os
  objs : ∀ a o, H a = some o → ORel C s.heap H a o
  new : ∀ a, H a ≠ none → C.base.get? a = none ∧ a ≠ sysModules

theorem ORel.lt {C h H a o} (r : ORel C h H a o) : ∃ ob, h.get? a = some ob := by
  cases o with
  | list l => obtain ⟨xs, ⟨n, e⟩, _⟩ := r; exact ⟨_, e⟩
  | dictI m n => obtain ⟨f, ⟨o, es, ep, e, _⟩, _⟩ := r; exact ⟨o, e⟩
  | dictS m n => obtain ⟨f, ⟨o, es, ep, e, _⟩, _⟩ := r; exact ⟨o, e⟩
  | inst c d => exact ⟨_, r⟩
  | ns m n => obtain ⟨o, es, ep, e, _⟩ := r; exact ⟨o, e⟩

/-- an owned object that nobody touched -/
theorem ORel.same {C h H h' H' a o} (r : ORel C h H a o) (E : ExtV H h H' h') (e : h'.get? a = h.get? a) : ORel C h' H' a o := by
  cases o with
  | list l => obtain ⟨xs, ⟨o, e1⟩, r2⟩ := r; exact ⟨xs, ⟨o, e.trans e1⟩, r2.extV E⟩
  | dictI m n =>
    obtain ⟨f, ⟨o, es, ep, e1, r1⟩, d, r2⟩ := r
    exact ⟨f, ⟨o, es, ep, e.trans e1, r1⟩, d, fun k => (r2 k).extV E⟩
  | dictS m n =>
    obtain ⟨f, ⟨o, es, ep, e1, r1⟩, d, r2⟩ := r
    exact ⟨f, ⟨o, es, ep, e.trans e1, r1⟩, d, fun k => (r2 k).extV E⟩
  | inst c d => exact e.trans r
  | ns m n =>
    obtain ⟨o, es, ep, e1, r1, r3, d, r2⟩ := r
    exact ⟨o, es, ep, e.trans e1, r1, r3, d, fun k => (r2 k).extV E⟩

/-- frame of a call: locals and cells -/
structure Frm (C : Cx) (H : Hp) (env : Env) (m cm : Str → Option Value) (h : Heap) : Prop where
  ns : h.Ns env.locals m
  cell : ∀ n c, env.cells.lookup n = some c → h.IsCell c (cm n)
  own : H env.locals = none
  ownc : ∀ n c, env.cells.lookup n = some c → H c = none
  above : C.base.get? env.locals = none
  abovec : ∀ n c, env.cells.lookup n = some c → C.base.get? c = none
  apart : ∀ n n' c, env.cells.lookup n = some c → env.cells.lookup n' = some c → n = n'

def LocRel (h : Heap) (H : Hp) (env : Env) (m cm : Str → Option Value) (x : Str) (v : V) : Prop :=
  match env.kindOf x with
  | some .local => ∃ u, m x = some u ∧ VRel h H v u
  | some .cell | some .free => ∃ u c, env.cells.lookup x = some c ∧ cm x = some u ∧ VRel h H v u
  | _ => True

structure SimL (C : Cx) (env : Env) (ρ : Rho) (H : Hp) (s : Shared) : Prop where
  sim : Sim C H s
  kind : env.scope.kind = .function
  globals : env.globals = mainGlobals
  builtins : env.builtins = builtinsNs
  frm : ∃ m cm, Frm C H env m cm s.heap ∧ ∀ x v, ρ x = some v → LocRel s.heap H env m cm x v

theorem LocRel.extV {H h H' h' env m cm x v} (E : ExtV H h H' h') (r : LocRel h H env m cm x v) : LocRel h' H' env m cm x v := by
  unfold LocRel at *
  split at r
  · obtain ⟨u, a, b⟩ := r; exact ⟨u, a, b.extV E⟩
  · obtain ⟨u, c, a, b, d⟩ := r; exact ⟨u, c, a, b, d.extV E⟩
  · obtain ⟨u, c, a, b, d⟩ := r; exact ⟨u, c, a, b, d.extV E⟩
  · trivial

theorem Frm.ext {C H h H' h' env m cm} (E : Ext H h H' h') (F : Frm C H env m cm h) : Frm C H' env m cm h' := by
  obtain ⟨oL, es, ep, eL, rL⟩ := F.ns
  refine ⟨⟨oL, es, ep, E.keep _ _ eL F.own, rL⟩, fun n c e => ?_, E.grow _ _ eL F.own, fun n c e => ?_, F.above, F.abovec, F.apart⟩
  · obtain ⟨o, e1, r1⟩ := F.cell n c e; exact ⟨o, E.keep _ _ e1 (F.ownc n c e), r1⟩
  · obtain ⟨o, e1, r1⟩ := F.cell n c e; exact E.grow _ _ e1 (F.ownc n c e)

theorem SimL.ext {C env ρ H s H' s'} (S : SimL C env ρ H s) (S' : Sim C H' s') (E : Ext H s.heap H' s'.heap) : SimL C env ρ H' s' := by
  obtain ⟨m, cm, F, r⟩ := S.frm
  exact ⟨S', S.kind, S.globals, S.builtins, m, cm, F.ext E, fun x v e => (r x v e).extV E.v⟩

/-- what a statement may change besides: its own frame -/
structure ExtF (env : Env) (H : Hp) (h : Heap) (H' : Hp) (h' : Heap) : Prop where
  keep : ∀ a o, h.get? a = some o → H a = none → a ≠ env.locals → (∀ n, env.cells.lookup n ≠ some a) → h'.get? a = some o
  grow : ∀ a o, h.get? a = some o → H a = none → H' a = none
  live : ∀ a o, h.get? a = some o → ∃ o', h'.get? a = some o'

theorem Ext.toF {env H h H' h'} (x : Ext H h H' h') : ExtF env H h H' h' := ⟨fun a o e n _ _ => x.keep a o e n, x.grow, x.live⟩
theorem ExtF.refl (env : Env) (H : Hp) (h : Heap) : ExtF env H h H h := (Ext.refl H h).toF
theorem ExtF.trans {env H h H' h' H'' h''} (x : ExtF env H h H' h') (y : ExtF env H' h' H'' h'') : ExtF env H h H'' h'' := by
  refine ⟨fun a o e n n1 n2 => y.keep a o (x.keep a o e n n1 n2) (x.grow a o e n) n1 n2, fun a o e n => ?_, fun a o e => ?_⟩
  · obtain ⟨o', e'⟩ := x.live a o e; exact y.grow a o' e' (x.grow a o e n)
  · obtain ⟨o', e'⟩ := x.live a o e; exact y.live a o' e'

def Post {α β : Type} (C : Cx) (H : Hp) (h : Heap) (rel : Heap → Hp → β → α → Prop) (Q : β → Hp → Prop) : α → Shared → Prop :=
  fun x s' => ∃ v H', Q v H' ∧ Sim C H' s' ∧ rel s'.heap H' v x ∧ Ext H h H' s'.heap

theorem Post.after {α β : Type} {C : Cx} {H H₁ : Hp} {h h₁ : Heap} {rel : Heap → Hp → β → α → Prop} {Q : β → Hp → Prop} (E : Ext H h H₁ h₁) {x : α} {s' : Shared} (p : Post C H₁ h₁ rel Q x s') : Post C H h rel Q x s' :=
  let ⟨v, H', q, S, r, E'⟩ := p; ⟨v, H', q, S, r, E.trans E'⟩

/-- the room that a call at level k has -/
structure Lv (C : Cx) (k : Nat) (A : Around) : Prop where
  handled : C.hd = true → A.handled = none
  depth : A.depth + 2 * k + 100 < recursionLimit
  units : A.units + 40 * k + 100 < cLine

def BRel (_ : Heap) (_ : Hp) (b x : Bool) : Prop := b = x

def EvalW (C : Cx) (k : Nat) (env : Env) (e : Expr) (Q R : V → Hp → Prop) (ρ : Rho) (H : Hp) : Prop :=
  ∀ A, Lv C k A → ∀ s, SimL C env ρ H s → wpAny C.M A (eval e env) (Post C H s.heap VRel Q) (Post C H s.heap VRel R) s
def TestW (C : Cx) (k : Nat) (env : Env) (e : Expr) (Q : Bool → Hp → Prop) (R : V → Hp → Prop) (ρ : Rho) (H : Hp) : Prop :=
  ∀ A, Lv C k A → ∀ s, SimL C env ρ H s → wpAny C.M A (isTrue e env (eval e env)) (Post C H s.heap BRel Q) (Post C H s.heap VRel R) s
def BinW (C : Cx) (k : Nat) (op : Operator) (v w : V) (Q R : V → Hp → Prop) (H : Hp) : Prop :=
  ∀ A, Lv C k A → ∀ s x y, Sim C H s → VRel s.heap H v x → VRel s.heap H w y → wpAny C.M A (binaryOp op x y) (Post C H s.heap VRel Q) (Post C H s.heap VRel R) s
def CmpW (C : Cx) (k : Nat) (op : CmpOp) (v w : V) (Q R : V → Hp → Prop) (H : Hp) : Prop :=
  ∀ A, Lv C k A → ∀ s x y, Sim C H s → VRel s.heap H v x → VRel s.heap H w y → wpAny C.M A (compareOp op x y) (Post C H s.heap VRel Q) (Post C H s.heap VRel R) s
def TruthW (C : Cx) (k : Nat) (v : V) (Q : Bool → Hp → Prop) (R : V → Hp → Prop) (H : Hp) : Prop :=
  ∀ A, Lv C k A → ∀ s x, Sim C H s → VRel s.heap H v x → wpAny C.M A (truthy x) (Post C H s.heap BRel Q) (Post C H s.heap VRel R) s
def CallW (C : Cx) (k : Nat) (f : Value) (args : List V) (Q R : V → Hp → Prop) (H : Hp) : Prop :=
  ∀ A, Lv C k A → ∀ s xs, Sim C H s → VRelL s.heap H args xs → wpAny C.M A (call f xs) (Post C H s.heap VRel Q) (Post C H s.heap VRel R) s

end Mine

set_option Elab.async false
set_option linter.unusedVariables false
namespace Mine
open PySem PyProof.Rows

theorem Sim.toks {C H s} (S : Sim C H s) (t : Nat) : Sim C H { s with toks := t } := ⟨S.keep, S.gens, S.os, S.objs, S.new⟩
theorem SimL.toks {C env ρ H s} (S : SimL C env ρ H s) (t : Nat) : SimL C env ρ H { s with toks := t } := ⟨S.sim.toks t, S.kind, S.globals, S.builtins, S.frm⟩

theorem Post.here {α β : Type} {C : Cx} {H : Hp} {h : Heap} {rel : Heap → Hp → β → α → Prop} {Q : β → Hp → Prop} {x : α} {v : β} {s' : Shared}
    (q : Q v H) (S : Sim C H s') (r : rel s'.heap H v x) (e : s'.heap = h) : Post C H h rel Q x s' := ⟨v, H, q, S, r, e ▸ Ext.refl _ _⟩

variable {C : Cx} {k : Nat} {env : Env} {ρ : Rho} {H : Hp} {Q R : V → Hp → Prop} {QB : Bool → Hp → Prop}

theorem EvalW.none {c p} (h : Q .none H) : EvalW C k env (.Constant .none c p) Q R ρ H :=
  fun _ _ _ S => wpAny_pure (Post.here h S.sim .none rfl)
theorem EvalW.bool {b c p} (h : Q (.bool b) H) : EvalW C k env (.Constant (.bool b) c p) Q R ρ H :=
  fun _ _ _ S => wpAny_pure (Post.here h S.sim (.bool b) rfl)
theorem EvalW.int {i c p} (h : Q (.int i) H) : EvalW C k env (.Constant (.int i) c p) Q R ρ H :=
  fun _ _ _ S => wpAny_Constant_int (Post.here h (S.toks _).sim (.int i _) rfl)
theorem EvalW.str {x c p} (h : Q (.str x) H) : EvalW C k env (.Constant (.str x) c p) Q R ρ H :=
  fun _ _ _ S => wpAny_mkText (Post.here h (S.toks _).sim (.str x _) rfl)

theorem EvalW.local_ {x p v} (hv : ρ x = some v) (h : Q v H) (hk : env.kindOf x = some .local) (hd : (x == ("__debug__" : Str)) = false := by decide) :
    EvalW C k env (.Name x p) Q R ρ H := fun _ _ s S => by
  obtain ⟨m, cm, F, r⟩ := S.frm
  have := r x v hv
  unfold LocRel at this
  rw [hk] at this
  obtain ⟨u, hm, ru⟩ := this
  exact wpAny_Name (wpAny_loadName_local S.kind hk F.ns hm (Post.here h S.sim ru rfl)) hd
theorem EvalW.cell {x p v} (hv : ρ x = some v) (h : Q v H) (hk : env.kindOf x = some .cell) (hd : (x == ("__debug__" : Str)) = false := by decide) :
    EvalW C k env (.Name x p) Q R ρ H := fun _ _ s S => by
  obtain ⟨m, cm, F, r⟩ := S.frm
  have := r x v hv
  unfold LocRel at this
  rw [hk] at this
  obtain ⟨u, c, hc, hm, ru⟩ := this
  exact wpAny_Name (wpAny_loadName_cell S.kind hk hc (hm ▸ F.cell x c hc) (Post.here h S.sim ru rfl)) hd
/-- a global name of the text, or a builtin -/
def GlobalIs (C : Cx) (x : Str) (v : Value) : Prop :=
  (∃ mg, C.base.Ns mainGlobals mg ∧ mg x = some v) ∨ (∃ mg mb, C.base.Ns mainGlobals mg ∧ mg x = none ∧ C.base.Ns builtinsNs mb ∧ mb x = some v)
def GlobalV (C : Cx) (x : Str) (v : V) : Prop := ∃ u, GlobalIs C x u ∧ ∀ h H, VRel h H v u
theorem EvalW.global {x p v} (g : GlobalV C x v) (h : Q v H) (hk : env.kindOf x = some .globalImplicit) (hd : (x == ("__debug__" : Str)) = false := by decide) :
    EvalW C k env (.Name x p) Q R ρ H := fun _ _ s S => by
  obtain ⟨u, g, r⟩ := g
  refine Calls.Name_function_global S.kind hk ?_ hd
  rcases g with ⟨mg, g1, g2⟩ | ⟨mg, mb, g1, g2, g3, g4⟩
  · exact Calls.loadGlobal_global (by rw [S.globals]; exact g1.keeps S.sim.keep) g2 (Post.here h S.sim (r _ _) rfl)
  · exact Calls.loadGlobal_builtin (by rw [S.globals]; exact g1.keeps S.sim.keep) g2 (by rw [S.builtins]; exact g3.keeps S.sim.keep) g4 (Post.here h S.sim (r _ _) rfl)

/-- chaining: behind a first part -/
theorem wp_go {α β : Type} {C : Cx} {A : Around} {H : Hp} {s : Shared} {rel : Heap → Hp → β → α → Prop} {m : Sem α} {Q : β → Hp → Prop} {R : V → Hp → Prop} {P : α → Shared → Prop} {PE : Value → Shared → Prop}
    (h : wpAny C.M A m (Post C H s.heap rel Q) (Post C H s.heap VRel R) s)
    (h' : ∀ x v H₁ s₁, Q v H₁ → Sim C H₁ s₁ → rel s₁.heap H₁ v x → Ext H s.heap H₁ s₁.heap → P x s₁)
    (hE : ∀ e s₁, Post C H s.heap VRel R e s₁ → PE e s₁ := by intro _ _ p; exact p) : wpAny C.M A m P PE s :=
  wpAny_mono h (fun x s₁ ⟨v, H₁, q, S₁, r, E⟩ => h' x v H₁ s₁ q S₁ r E) hE
theorem wp_fin {α β : Type} {C : Cx} {A : Around} {H H₁ : Hp} {s₁ : Shared} {h : Heap} {rel : Heap → Hp → β → α → Prop} {m : Sem α} {Q : β → Hp → Prop} {R : V → Hp → Prop} (E : Ext H h H₁ s₁.heap)
    (x : wpAny C.M A m (Post C H₁ s₁.heap rel Q) (Post C H₁ s₁.heap VRel R) s₁) : wpAny C.M A m (Post C H h rel Q) (Post C H h VRel R) s₁ :=
  wpAny_mono x (fun _ _ p => p.after E) fun _ _ p => p.after E

theorem EvalW.binop {l op r p} (h : EvalW C k env l (fun v H₁ => EvalW C k env r (fun w H₂ => BinW C k op v w Q R H₂) R ρ H₁) R ρ H) :
    EvalW C k env (.BinOp l op r p) Q R ρ H := fun A a s S =>
  wpAny_BinOp (wp_go (h A a s S) fun x v H₁ s₁ h₁ S₁ r₁ E₁ => wp_go (h₁ A a s₁ (S.ext S₁ E₁)) (fun y w H₂ s₂ h₂ S₂ r₂ E₂ => wp_fin (E₁.trans E₂) (h₂ A a s₂ x y S₂ (r₁.ext E₂) r₂)) fun _ _ p => p.after E₁)
theorem EvalW.compare {l op r p} (h : EvalW C k env l (fun v H₁ => EvalW C k env r (fun w H₂ => CmpW C k op v w Q R H₂) R ρ H₁) R ρ H)
    (hm : behindInMarks op r = false := by with_unfolding_all rfl) :
    EvalW C k env (.Compare l [op] [r] p) Q R ρ H := fun A a s S =>
  wpAny_Compare1 (wp_go (h A a s S) fun x v H₁ s₁ h₁ S₁ r₁ E₁ => wp_go (h₁ A a s₁ (S.ext S₁ E₁)) (fun y w H₂ s₂ h₂ S₂ r₂ E₂ => wp_fin (E₁.trans E₂) (h₂ A a s₂ x y S₂ (r₁.ext E₂) r₂)) fun _ _ p => p.after E₁) hm
theorem TestW.compare {l op r p} (h : EvalW C k env l (fun v H₁ => EvalW C k env r (fun w H₂ => CmpW C k op v w (fun u H₃ => TruthW C k u QB R H₃) R H₂) R ρ H₁) R ρ H)
    (hm : behindInMarks op r = false := by with_unfolding_all rfl) :
    TestW C k env (.Compare l [op] [r] p) QB R ρ H := fun A a s S =>
  wpAny_isTrue_Compare1 (wp_go (h A a s S) fun x v H₁ s₁ h₁ S₁ r₁ E₁ => wp_go (h₁ A a s₁ (S.ext S₁ E₁)) (fun y w H₂ s₂ h₂ S₂ r₂ E₂ =>
    wp_go (h₂ A a s₂ x y S₂ (r₁.ext E₂) r₂) (fun z u H₃ s₃ h₃ S₃ r₃ E₃ => wp_fin ((E₁.trans E₂).trans E₃) (h₃ A a s₃ z S₃ r₃)) fun _ _ p => p.after (E₁.trans E₂)) fun _ _ p => p.after E₁) hm

theorem TestW.not {x p} (h : TestW C k env x (fun b H₁ => QB (!b) H₁) R ρ H) : TestW C k env (.UnaryOp .Not x p) QB R ρ H := fun A a s S =>
  isTrue_not (wpAny_mono (h A a s S) (fun b s' ⟨v, H', q, S', r, E⟩ => ⟨!v, H', q, S', by unfold BRel at *; rw [r], E⟩) fun _ _ x => x)
theorem TestW.and_nil {p} (h : QB true H) : TestW C k env (.BoolOp .And [] p) QB R ρ H := fun A a s S => isTrue_and_nil (Post.here h S.sim rfl rfl)
theorem TestW.or_nil {p} (h : QB false H) : TestW C k env (.BoolOp .Or [] p) QB R ρ H := fun A a s S => isTrue_or_nil (Post.here h S.sim rfl rfl)
theorem TestW.and {x rest p} (h : TestW C k env x (fun b H₁ => if b = true then TestW C k env (.BoolOp .And rest p) QB R ρ H₁ else QB false H₁) R ρ H) :
    TestW C k env (.BoolOp .And (x :: rest) p) QB R ρ H := fun A a s S => by
  refine isTrue_and (wpAny_mono (h A a s S) ?_ fun _ _ x => x)
  rintro b s' ⟨v, H', q, S', rfl, E⟩
  cases v
  · simp only [Bool.false_eq_true, if_false] at q ⊢; exact ⟨false, H', q, S', rfl, E⟩
  · simp only [if_true] at q ⊢; exact wpAny_mono (q A a s' (S.ext S' E)) (fun _ _ p => p.after E) fun _ _ p => p.after E
theorem TestW.or {x rest p} (h : TestW C k env x (fun b H₁ => if b = true then QB true H₁ else TestW C k env (.BoolOp .Or rest p) QB R ρ H₁) R ρ H) :
    TestW C k env (.BoolOp .Or (x :: rest) p) QB R ρ H := fun A a s S => by
  refine isTrue_or (wpAny_mono (h A a s S) ?_ fun _ _ x => x)
  rintro b s' ⟨v, H', q, S', rfl, E⟩
  cases v
  · simp only [Bool.false_eq_true, if_false] at q ⊢; exact wpAny_mono (q A a s' (S.ext S' E)) (fun _ _ p => p.after E) fun _ _ p => p.after E
  · simp only [if_true] at q ⊢; exact ⟨true, H', q, S', rfl, E⟩
theorem TestW.plain {e} (h : EvalW C k env e (fun v H₁ => TruthW C k v QB R H₁) R ρ H)
    (he : ∀ whole, isTrue e env whole = (do let v ← whole; standAt e.pos; holding [v] (truthy v)) := by intro; rfl) : TestW C k env e QB R ρ H := fun A a s S =>
  isTrue_plain (wp_go (h A a s S) fun x v H₁ s₁ h₁ S₁ r₁ E₁ => wp_fin E₁ (h₁ A a s₁ x S₁ r₁)) (he _)

theorem EvalW.not {x p} (h : EvalW C k env x (fun v H₁ => TruthW C k v (fun b H₂ => Q (.bool (!b)) H₂) R H₁) R ρ H) : EvalW C k env (.UnaryOp .Not x p) Q R ρ H := fun A a s S => by
  refine UnaryOp_ (wp_go (h A a s S) fun x v H₁ s₁ h₁ S₁ r₁ E₁ => not_of (wpAny_mono (h₁ A a s₁ x S₁ r₁) ?_ fun _ _ p => p.after E₁))
  rintro c s' ⟨v, H', q, S', rfl, E⟩
  exact ⟨_, H', q, S', .bool _, E₁.trans E⟩
theorem EvalW.and_one {op e p} (h : EvalW C k env e Q R ρ H) : EvalW C k env (.BoolOp op [e] p) Q R ρ H := fun A a s S => BoolOp_one (h A a s S)
theorem EvalW.and {e₁ e₂ rest p} (h : EvalW C k env e₁ (fun v H₁ => TruthW C k v (fun b H₂ => if b = true then EvalW C k env (.BoolOp .And (e₂ :: rest) p) Q R ρ H₂ else Q v H₂) R H₁) R ρ H) :
    EvalW C k env (.BoolOp .And (e₁ :: e₂ :: rest) p) Q R ρ H := fun A a s S => by
  refine BoolOp_and (wpAny_mono (h A a s S) ?_ fun _ _ x => x)
  rintro x s₁ ⟨v, H₁, h₁, S₁, r₁, E₁⟩
  refine wpAny_mono (h₁ A a s₁ x S₁ r₁) ?_ fun _ _ p => p.after E₁
  rintro b s' ⟨b', H', q, S', rfl, E⟩
  cases b'
  · simp only [Bool.false_eq_true, if_false] at q ⊢; exact ⟨v, H', q, S', r₁.ext E, E₁.trans E⟩
  · simp only [if_true] at q ⊢; exact wpAny_mono (q A a s' (S.ext S' (E₁.trans E))) (fun _ _ p => p.after (E₁.trans E)) fun _ _ p => p.after (E₁.trans E)
theorem EvalW.or {e₁ e₂ rest p} (h : EvalW C k env e₁ (fun v H₁ => TruthW C k v (fun b H₂ => if b = true then Q v H₂ else EvalW C k env (.BoolOp .Or (e₂ :: rest) p) Q R ρ H₂) R H₁) R ρ H) :
    EvalW C k env (.BoolOp .Or (e₁ :: e₂ :: rest) p) Q R ρ H := fun A a s S => by
  refine BoolOp_or (wpAny_mono (h A a s S) ?_ fun _ _ x => x)
  rintro x s₁ ⟨v, H₁, h₁, S₁, r₁, E₁⟩
  refine wpAny_mono (h₁ A a s₁ x S₁ r₁) ?_ fun _ _ p => p.after E₁
  rintro b s' ⟨b', H', q, S', rfl, E⟩
  cases b'
  · simp only [Bool.false_eq_true, if_false] at q ⊢; exact wpAny_mono (q A a s' (S.ext S' (E₁.trans E))) (fun _ _ p => p.after (E₁.trans E)) fun _ _ p => p.after (E₁.trans E)
  · simp only [if_true] at q ⊢; exact ⟨v, H', q, S', r₁.ext E, E₁.trans E⟩

end Mine

set_option Elab.async false
set_option linter.unusedVariables false
namespace Mine
open PySem PyProof.Rows

theorem get_eq_of {h h' : Heap} {b a : Addr} {o : Obj} (hk : ∀ a o, a ≠ b → h.get? a = some o → h'.get? a = some o) (n : a ≠ b) (e : h.get? a = some o) : h'.get? a = h.get? a := (hk a o n e).trans e.symm

/-- an object that is neither owned nor list nor tuple is changed; others may be new -/
theorem Sim.touch {C : Cx} {H : Hp} {s s' : Shared} {b : Addr} {ob : Obj} (S : Sim C H s) (hb : s.heap.get? b = some ob) (nb : ∀ xs n, ob.data ≠ .seq xs n) (Hb : H b = none) (new : C.base.get? b = none)
    (hk : ∀ a o, a ≠ b → s.heap.get? a = some o → s'.heap.get? a = some o) (hg : s'.gens = s.gens) (ho : s'.os = s.os) : Sim C H s' := by
  refine ⟨fun a o e => hk a o (fun q => ?_) (S.keep a o e), hg.trans S.gens, ho.trans S.os, fun a o e => ?_, S.new⟩
  · subst q; rw [new] at e; cases e
  · have r := S.objs a o e
    obtain ⟨ob', e'⟩ := r.lt
    exact r.same (ExtV.but hb nb hk) (get_eq_of hk (fun q => by subst q; rw [Hb] at e; cases e) e')

theorem ns_noseq {h : Heap} {L : Addr} {m} (n : h.Ns L m) : ∃ o, h.get? L = some o ∧ ∀ xs n, o.data ≠ .seq xs n := by
  obtain ⟨o, es, ep, e, d, _⟩ := n
  exact ⟨o, e, fun xs n q => by rw [d] at q; cases q⟩
theorem cell_noseq {h : Heap} {c : Addr} {v} (n : h.IsCell c v) : ∃ o, h.get? c = some o ∧ ∀ xs n, o.data ≠ .seq xs n := by
  obtain ⟨o, e, d⟩ := n
  exact ⟨o, e, fun xs n q => by rw [d] at q; cases q⟩

inductive Fl where
  | next | brk | cont
  | ret (v : V)

def FlRel (h : Heap) (H : Hp) : Fl → Flow → Prop
  | .next, .next => True
  | .brk, .brk => True
  | .cont, .cont => True
  | .ret v, .ret x => VRel h H v x
  | _, _ => False

def PostS (C : Cx) (env : Env) (H : Hp) (h : Heap) (Q : Fl → Rho → Hp → Prop) : Flow → Shared → Prop :=
  fun f s' => ∃ fl ρ' H', Q fl ρ' H' ∧ FlRel s'.heap H' fl f ∧ SimL C env ρ' H' s' ∧ ExtF env H h H' s'.heap
def PostX (C : Cx) (env : Env) (H : Hp) (h : Heap) (R : V → Rho → Hp → Prop) : Value → Shared → Prop :=
  fun e s' => ∃ v ρ' H', R v ρ' H' ∧ VRel s'.heap H' v e ∧ SimL C env ρ' H' s' ∧ ExtF env H h H' s'.heap
theorem PostS.after {C : Cx} {env : Env} {H H₁ : Hp} {h h₁ : Heap} {Q : Fl → Rho → Hp → Prop} (E : ExtF env H h H₁ h₁) {x : Flow} {s' : Shared} (p : PostS C env H₁ h₁ Q x s') : PostS C env H h Q x s' :=
  let ⟨v, ρ, H', q, r, S, E'⟩ := p; ⟨v, ρ, H', q, r, S, E.trans E'⟩
theorem PostX.after {C : Cx} {env : Env} {H H₁ : Hp} {h h₁ : Heap} {R : V → Rho → Hp → Prop} (E : ExtF env H h H₁ h₁) {x : Value} {s' : Shared} (p : PostX C env H₁ h₁ R x s') : PostX C env H h R x s' :=
  let ⟨v, ρ, H', q, r, S, E'⟩ := p; ⟨v, ρ, H', q, r, S, E.trans E'⟩

def ExecW (C : Cx) (k : Nat) (env : Env) (st : Stmt) (Q : Fl → Rho → Hp → Prop) (R : V → Rho → Hp → Prop) (ρ : Rho) (H : Hp) : Prop :=
  ∀ A, Lv C k A → ∀ s, SimL C env ρ H s → wpAny C.M A (exec st env) (PostS C env H s.heap Q) (PostX C env H s.heap R) s
def ExecsW (C : Cx) (k : Nat) (env : Env) (st : List Stmt) (Q : Fl → Rho → Hp → Prop) (R : V → Rho → Hp → Prop) (ρ : Rho) (H : Hp) : Prop :=
  ∀ A, Lv C k A → ∀ s, SimL C env ρ H s → wpAny C.M A (execs st env) (PostS C env H s.heap Q) (PostX C env H s.heap R) s

/-- an expression's raise, seen by its statement -/
theorem Post.toX {C : Cx} {env : Env} {ρ : Rho} {H : Hp} {s : Shared} {R : V → Rho → Hp → Prop} (S : SimL C env ρ H s) {e : Value} {s' : Shared} (p : Post C H s.heap VRel (fun v H' => R v ρ H') e s') : PostX C env H s.heap R e s' :=
  let ⟨v, H', q, S', r, E⟩ := p; ⟨v, ρ, H', q, r, S.ext S' E, E.toF⟩

variable {C : Cx} {k : Nat} {env : Env} {ρ : Rho} {H : Hp} {Q : Fl → Rho → Hp → Prop} {R : V → Rho → Hp → Prop}

theorem ExecsW.nil (h : Q .next ρ H) : ExecsW C k env [] Q R ρ H := fun A a s S => wpAny_execs_nil ⟨.next, ρ, H, h, trivial, S, ExtF.refl _ _ _⟩

/-- behind a statement -/
def Cont (C : Cx) (k : Nat) (env : Env) (rest : List Stmt) (Q : Fl → Rho → Hp → Prop) (R : V → Rho → Hp → Prop) : Fl → Rho → Hp → Prop
  | .next, ρ, H => ExecsW C k env rest Q R ρ H
  | f, ρ, H => Q f ρ H

theorem ExecsW.cons {st rest} (h : ExecW C k env st (Cont C k env rest Q R) R ρ H) : ExecsW C k env (st :: rest) Q R ρ H := fun A a s S => by
  refine wpAny_execs_cons (wpAny_mono (h A a s S) ?_ fun _ _ x => x)
  rintro f s' ⟨fl, ρ', H', q, r, S', E⟩
  cases fl <;> cases f <;> first | exact r.elim | skip
  · exact wpAny_mono (q A a s' S') (fun _ _ p => p.after E) fun _ _ p => p.after E
  · exact ⟨.brk, ρ', H', q, r, S', E⟩
  · exact ⟨.cont, ρ', H', q, r, S', E⟩
  · exact ⟨.ret _, ρ', H', q, r, S', E⟩

theorem ExecW.ret {e p} (h : EvalW C k env e (fun v H' => Q (.ret v) ρ H') (fun v H' => R v ρ H') ρ H) : ExecW C k env (.Return (some e) p) Q R ρ H := fun A a s S =>
  wpAny_Return_some (wpAny_mono (h A a s S) (fun x s' ⟨v, H', q, S', r, E⟩ => ⟨.ret v, ρ, H', q, r, S.ext S' E, E.toF⟩) fun _ _ p => p.toX S)
theorem ExecW.if_ {t b o p} (h : TestW C k env t (fun c H' => if c = true then ExecsW C k env b Q R ρ H' else ExecsW C k env o Q R ρ H') (fun v H' => R v ρ H') ρ H) : ExecW C k env (.If t b o p) Q R ρ H := fun A a s S => by
  refine wpAny_If (wpAny_mono (h A a s S) ?_ fun _ _ p => p.toX S)
  rintro c s' ⟨c', H', q, S', rfl, E⟩
  cases c'
  · simp only [Bool.false_eq_true, if_false] at q ⊢; exact wpAny_mono (q A a s' (S.ext S' E)) (fun _ _ p => p.after E.toF) fun _ _ p => p.after E.toF
  · simp only [if_true] at q ⊢; exact wpAny_mono (q A a s' (S.ext S' E)) (fun _ _ p => p.after E.toF) fun _ _ p => p.after E.toF

/-- storing a name -/
theorem store_local {A : Around} {E : Value → Shared → Prop} {x : Str} {v : V} {u : Value} {s : Shared} {P : Unit → Shared → Prop} (hk : env.kindOf x = some .local) (S : SimL C env ρ H s) (r : VRel s.heap H v u)
    (h : ∀ s', SimL C env (ρ.set x v) H s' → ExtF env H s.heap H s'.heap → (∀ a o, a ≠ env.locals → s.heap.get? a = some o → s'.heap.get? a = some o) → s'.gens = s.gens → P () s') : wpAny C.M A (storeName env x u) P E s := by
  obtain ⟨m, cm, F, rr⟩ := S.frm
  refine wpAny_storeName_local hk F.ns (fun h' hn hs => ?_) (by rw [S.kind]; rfl)
  obtain ⟨oL, eL, nL⟩ := ns_noseq F.ns
  have hk' : ∀ a o, a ≠ env.locals → s.heap.get? a = some o → h'.get? a = some o := fun a o n e => hs.extBut a o n e
  have S1 : Sim C H { s with heap := h', toks := s.toks + 1 } := S.sim.touch (s' := { s with heap := h', toks := s.toks + 1 }) eL nL F.own F.above hk' rfl rfl
  have V1 : ExtV H s.heap H h' := ExtV.but eL nL hk'
  obtain ⟨oL', eL', _⟩ := ns_noseq hn
  refine h _ ⟨S1, S.kind, S.globals, S.builtins, _, cm, ⟨hn, fun n c e => ?_, F.own, F.ownc, F.above, F.abovec, F.apart⟩, fun y w e => ?_⟩ ⟨fun a o e _ n _ => hk' a o n e, fun a o e n => n, fun a o e => ?_⟩ hk' rfl
  · have := F.cell n c e
    refine this.sameBut hs fun q => ?_
    obtain ⟨oc, ec, dc⟩ := this
    subst q; obtain ⟨o, es, ep, e1, d1, _⟩ := F.ns; rw [e1] at ec; cases ec; rw [d1] at dc; cases dc
  · unfold Rho.set at e
    unfold LocRel
    by_cases q : y = x
    · subst q
      rw [if_pos rfl] at e; cases e
      rw [hk]; exact ⟨u, by simp, r.extV V1⟩
    · rw [if_neg q] at e
      have := (rr y w e).extV V1
      unfold LocRel at this
      split at this
      · obtain ⟨u', a, b⟩ := this; exact ⟨u', by simp [q, a], b⟩
      · exact this
      · exact this
      · trivial
  · by_cases q : a = env.locals
    · subst q; exact ⟨oL', eL'⟩
    · exact ⟨o, hk' a o q e⟩
theorem store_cell {A : Around} {E : Value → Shared → Prop} {x : Str} {v : V} {u : Value} {s : Shared} {P : Unit → Shared → Prop} (hk : env.kindOf x = some .cell) (hc : (env.cells.lookup x).isSome = true) (S : SimL C env ρ H s) (r : VRel s.heap H v u)
    (h : ∀ s', SimL C env (ρ.set x v) H s' → ExtF env H s.heap H s'.heap → (∀ a o, (∀ n, env.cells.lookup n ≠ some a) → s.heap.get? a = some o → s'.heap.get? a = some o) → s'.gens = s.gens → P () s') : wpAny C.M A (storeName env x u) P E s := by
  obtain ⟨m, cm, F, rr⟩ := S.frm
  obtain ⟨c, hc⟩ := Option.isSome_iff_exists.mp hc
  refine wpAny_storeName_cell S.kind hk hc (F.cell x c hc) (fun h' hn hs => ?_)
  obtain ⟨oL, eL, nL⟩ := cell_noseq (F.cell x c hc)
  have hk' : ∀ a o, a ≠ c → s.heap.get? a = some o → h'.get? a = some o := fun a o n e => hs.extBut a o n e
  have S1 : Sim C H { s with heap := h' } := S.sim.touch (s' := { s with heap := h' }) eL nL (F.ownc x c hc) (F.abovec x c hc) hk' rfl rfl
  have V1 : ExtV H s.heap H h' := ExtV.but eL nL hk'
  obtain ⟨oL', eL', _⟩ := cell_noseq hn
  refine h _ ⟨S1, S.kind, S.globals, S.builtins, m, fun y => if y = x then some u else cm y, ⟨?_, fun n c' e => ?_, F.own, F.ownc, F.above, F.abovec, F.apart⟩, fun y w e => ?_⟩ ⟨fun a o e _ _ n => hk' a o (fun q => n x (q ▸ hc)) e, fun a o e n => n, fun a o e => ?_⟩ (fun a o n e => hk' a o (fun q => n x (q ▸ hc)) e) rfl
  · refine F.ns.sameBut hs fun q => ?_
    obtain ⟨oc, ec, dc⟩ := F.cell x c hc
    obtain ⟨o, es, ep, e1, d1, _⟩ := F.ns; rw [← q, e1] at ec; cases ec; rw [d1] at dc; cases dc
  · by_cases q : n = x
    · subst q; rw [hc] at e; cases e; simpa using hn
    · rw [if_neg q]
      exact (F.cell n c' e).sameBut hs fun q' => q (F.apart n x c (q' ▸ e) hc)
  · unfold Rho.set at e
    unfold LocRel
    by_cases q : y = x
    · subst q
      rw [if_pos rfl] at e; cases e
      rw [hk]; exact ⟨u, c, hc, by simp, r.extV V1⟩
    · rw [if_neg q] at e
      have := (rr y w e).extV V1
      unfold LocRel at this
      split at this
      · exact this
      · obtain ⟨u', c', a, b, d⟩ := this; exact ⟨u', c', a, by simp [q, b], d⟩
      · obtain ⟨u', c', a, b, d⟩ := this; exact ⟨u', c', a, by simp [q, b], d⟩
      · trivial
  · by_cases q : a = c
    · subst q; exact ⟨oL', eL'⟩
    · exact ⟨o, hk' a o q e⟩

/-- a name that a frame can store -/
def Storable (env : Env) (x : Str) : Prop := env.kindOf x = some .local ∨ (env.kindOf x = some .cell ∧ (env.cells.lookup x).isSome = true)
theorem store_W {A : Around} {E : Value → Shared → Prop} {x : Str} {v : V} {u : Value} {s : Shared} {P : Unit → Shared → Prop} (hk : Storable env x) (S : SimL C env ρ H s) (r : VRel s.heap H v u)
    (h : ∀ s', SimL C env (ρ.set x v) H s' → ExtF env H s.heap H s'.heap → s'.gens = s.gens → P () s') : wpAny C.M A (storeName env x u) P E s := by
  rcases hk with hk | ⟨hk, hc⟩
  · exact store_local hk S r fun s' a b _ d => h s' a b d
  · exact store_cell hk hc S r fun s' a b _ d => h s' a b d

theorem ExecW.assign {x p' e p} (hk : Storable env x) (h : EvalW C k env e (fun v H' => Q .next (ρ.set x v) H') (fun v H' => R v ρ H') ρ H)
    (hs : swapsWith e (some (.Name x p')) p.line env = pure false := by rfl) : ExecW C k env (.Assign [.Name x p'] e p) Q R ρ H := fun A a s S => by
  refine wpAny_Assign_Name (wpAny_mono (h A a s S) ?_ fun _ _ p => p.toX S) hs
  rintro u s' ⟨v, H', q, S', r, E⟩
  exact store_W hk (S.ext S' E) r fun s'' S'' E'' _ => ⟨.next, _, H', q, trivial, S'', E.toF.trans E''⟩

end Mine

set_option Elab.async false
set_option linter.unusedVariables false
namespace Mine
open PySem PyProof.Rows

/-- nothing old is changed; new objects may come -/
theorem Sim.grown {C : Cx} {H : Hp} {s s' : Shared} (S : Sim C H s) (hk : ∀ a o, s.heap.get? a = some o → s'.heap.get? a = some o) (hg : s'.gens = s.gens) (ho : s'.os = s.os) : Sim C H s' := by
  refine ⟨fun a o e => hk a o (S.keep a o e), hg.trans S.gens, ho.trans S.os, fun a o e => ?_, S.new⟩
  have r := S.objs a o e
  obtain ⟨ob', e'⟩ := r.lt
  exact r.same (fun a o _ _ e _ n => ⟨hk a o e, n⟩) ((hk a ob' e').trans e'.symm)
theorem Ext.grown {H : Hp} {h h' : Heap} (hk : ∀ a o, h.get? a = some o → h'.get? a = some o) : Ext H h H h' := ⟨fun a o e _ => hk a o e, fun _ _ _ n => n, fun a o e => ⟨o, hk a o e⟩⟩
theorem Sim.freshB {C : Cx} {H : Hp} {s : Shared} (S : Sim C H s) {a : Addr} (h : s.heap.objs.size ≤ a) : C.base.get? a = none := by
  cases e : C.base.get? a with
  | none => rfl
  | some o => exact absurd (Heap.lt_size (S.keep a o e)) (Nat.not_lt.mpr h)
theorem Sim.freshS {C : Cx} {H : Hp} {s : Shared} (S : Sim C H s) {a : Addr} (h : s.heap.objs.size ≤ a) : a ≠ sysModules := by
  obtain ⟨o, e⟩ := C.low
  have h1 := Heap.lt_size (S.keep _ _ e)
  have h2 : sysModules < cStatics := by decide
  intro q
  rw [q] at h
  exact absurd (Nat.lt_of_lt_of_le (Nat.lt_trans h2 h1) h) (Nat.lt_irrefl _)
theorem Sim.fresh {C : Cx} {H : Hp} {s : Shared} (S : Sim C H s) {a : Addr} (h : s.heap.objs.size ≤ a) : H a = none := by
  cases e : H a with
  | none => rfl
  | some o => obtain ⟨ob, e'⟩ := (S.objs a o e).lt; exact absurd (Heap.lt_size e') (Nat.not_lt.mpr h)

/-- re-abstraction: objects are let go of (frozen) -/
def Fz (H : Hp) (v v' : V) (H' : Hp) : Prop := (∀ a, H a = none → H' a = none) ∧ ∀ (C : Cx) (s : Shared) (x : Value), Sim C H s → VRel s.heap H v x → Sim C H' s ∧ VRel s.heap H' v' x
theorem Fz.refl {H v} : Fz H v v H := ⟨fun _ e => e, fun _ _ _ S r => ⟨S, r⟩⟩
def Hp.le (H' H : Hp) : Prop := ∀ a o, H' a = some o → H a = some o
theorem Hp.le.none {H H' : Hp} (h : H'.le H) (a : Addr) (e : H a = Option.none) : H' a = Option.none := by
  cases q : H' a with
  | none => rfl
  | some o => rw [h a o q] at e; cases e
theorem ExtV.of_le {H H' : Hp} (h : H'.le H) (hp : Heap) : ExtV H hp H' hp := fun a o _ _ e _ n => ⟨e, h.none a n⟩
theorem Sim.le {C H H' s} (S : Sim C H s) (h : Hp.le H' H) : Sim C H' s :=
  ⟨S.keep, S.gens, S.os, fun a o e => (S.objs a o (h a o e)).same (ExtV.of_le h _) rfl, fun a e => S.new a fun q => e (h.none a q)⟩

mutual
inductive FzR (H : Hp) (D : Addr → Prop) : V → V → Prop
  | refl (v : V) : FzR H D v v
  | tup {l l' : List V} (h : FzRL H D l l') : FzR H D (.tup l) (.tup l')
  | lst {l l' : List V} (h : FzRL H D l l') : FzR H D (.lst l) (.lst l')
  | thaw {a : Addr} {l l' : List V} (hD : D a) (ha : H a = some (.list l)) (h : FzRL H D l l') : FzR H D (.ref a) (.lst l')
inductive FzRL (H : Hp) (D : Addr → Prop) : List V → List V → Prop
  | nil : FzRL H D [] []
  | cons {v v' : V} {l l' : List V} (h : FzR H D v v') (hl : FzRL H D l l') : FzRL H D (v :: l) (v' :: l')
end
mutual
theorem FzR.sound {C : Cx} {H H' : Hp} {D : Addr → Prop} {s : Shared} (S : Sim C H s) (hle : Hp.le H' H) (hD : ∀ a, D a → H' a = none) : ∀ {v v'}, FzR H D v v' → ∀ {x}, VRel s.heap H v x → VRel s.heap H' v' x
  | _, _, .refl v, x, r => r.extV (ExtV.of_le hle _)
  | _, _, .tup h, _, .tup ha ho hl => .tup ha (hle.none _ ho) (FzRL.sound S hle hD h hl)
  | _, _, .lst h, _, .lst ha ho hl => .lst ha (hle.none _ ho) (FzRL.sound S hle hD h hl)
  | _, _, .thaw (a := b) d ha h, x, rx => by
    obtain ⟨xs, e, r⟩ := S.objs _ _ ha
    have hx : x = .ref b := by cases rx; rfl
    subst hx
    exact .lst e.isList (hD _ d) (FzRL.sound S hle hD h r)
theorem FzRL.sound {C : Cx} {H H' : Hp} {D : Addr → Prop} {s : Shared} (S : Sim C H s) (hle : Hp.le H' H) (hD : ∀ a, D a → H' a = none) : ∀ {v v'}, FzRL H D v v' → ∀ {x}, VRelL s.heap H v x → VRelL s.heap H' v' x
  | _, _, .nil, _, .nil => .nil
  | _, _, .cons h hl, _, .cons r rl => .cons (FzR.sound S hle hD h r) (FzRL.sound S hle hD hl rl)
end
theorem Fz.of {H H' : Hp} {D : Addr → Prop} {v v' : V} (r : FzR H D v v') (hle : Hp.le H' H) (hD : ∀ a, D a → H' a = none) : Fz H v v' H' :=
  ⟨hle.none, fun C s x S rx => ⟨S.le hle, r.sound S hle hD rx⟩⟩
theorem Fz.drop {H H' : Hp} {v : V} (hle : Hp.le H' H) : Fz H v v H' := Fz.of (D := fun _ => False) (.refl v) hle fun _ h => h.elim

abbrev SpecT := List V → (V → Hp → Prop) → (V → Hp → Prop) → Hp → Prop

def PostC (C : Cx) (H : Hp) (h : Heap) (Q R : V → Hp → Prop) : Result → Shared → Prop := fun r s' => match r with
  | .ok (.ret x) => Post C H h VRel Q x s'
  | .ok _ => False
  | .error e => Post C H h VRel R e s'

def FnOK (C : Cx) (k : Nat) (f : Value) (S : SpecT) : Prop :=
  ∀ A, Lv C k A → ∀ s H args xs Q R, Sim C H s → VRelL s.heap H args xs → S args Q R H → codeAny C.M A (.call f ⟨xs, []⟩) (PostC C H s.heap Q R) s

theorem FnOK.call {C k f S} (h : FnOK C k f S) {args Q R H} (hs : S args Q R H) : CallW C k f args Q R H := fun A a s xs Sm r => by
  refine wpAny_call (codeAny_mono (h A a s H args xs Q R Sm r hs) fun r s' p => ?_)
  rcases r with e | (_ | _ | _ | v) <;> first | exact p | exact p.elim

def bindRho (ρ : Rho) : List Str → List V → Rho
  | n :: ns, v :: vs => bindRho (ρ.set n v) ns vs
  | _, _ => ρ

structure FnDef (C : Cx) (a : Addr) (fd : FuncData) (names : List Str) (body : List Stmt) : Prop where
  obj : ∃ o, C.base.get? a = some o ∧ o.data = .func fd
  limit : C.base.NoLimit
  code : C.base.CodeRec fd.code fd.qualname
  body : fd.body = .stmts body
  closure : fd.closure = []
  globals : fd.globals = mainGlobals
  builtins : fd.builtins = builtinsNs
  co : fd.scope.isCoroutine = false
  gen : fd.scope.isGenerator = false
  kind : fd.scope.kind = .function
  bind : ∀ vals : List Value, vals.length = names.length → bindArgs fd ⟨vals, []⟩ = pure (names.zip vals)
  kinds : ∀ n ∈ names, fd.scope.names.lookup n = some .local ∨ fd.scope.names.lookup n = some .cell

theorem cellsFrom_isSome : ∀ (names : List (Str × NameKind)) (n : Nat) (acc : List (Str × Addr)) (x : Str), (names.lookup x = some .cell ∨ (acc.lookup x).isSome = true) → ((cellsFrom n names acc).lookup x).isSome = true
  | [], n, acc, x, h => by rcases h with h | h; · cases h
                           · exact h
  | (y, kd) :: r, n, acc, x, h => by
    unfold cellsFrom
    rw [List.lookup_cons] at h
    split
    · rename_i hk
      refine cellsFrom_isSome r (n + 1) _ x ?_
      rw [List.lookup_cons]
      by_cases q : (x == y) = true
      · rw [q]; exact .inr rfl
      · have q' : (x == y) = false := by simpa using q
        rw [q'] at h ⊢; exact h
    · rename_i hk
      refine cellsFrom_isSome r n _ x ?_
      by_cases q : (x == y) = true
      · rw [q] at h
        rcases h with h | h
        · simp only [Option.some.injEq] at h; rw [h] at hk; simp at hk
        · exact .inr h
      · have q' : (x == y) = false := by simpa using q
        rw [q'] at h; exact h

/-- a frame of this def -/
structure EnvOf (fd : FuncData) (env : Env) : Prop where
  scope : env.scope = fd.scope
  cells : ∀ x, env.kindOf x = some .cell → (env.cells.lookup x).isSome = true

theorem bind_rel {h : Heap} {H : Hp} {env : Env} : ∀ (names : List Str) (args : List V) (vals : List Value), VRelL h H args vals → ∀ (ρ : Rho) (m cm : Str → Option Value), (∀ n ∈ names, env.kindOf n = some .local ∨ (env.kindOf n = some .cell ∧ (env.cells.lookup n).isSome = true)) →
    (∀ x v, ρ x = some v → LocRel h H env m cm x v) → ∀ x v, bindRho ρ names args x = some v → LocRel h H env (bindL env.kindOf (names.zip vals) m) (bindC env.kindOf (names.zip vals) cm) x v
  | [], args, vals, r, ρ, m, cm, hk, h0, x, v, e => by cases args <;> exact h0 x v e
  | n :: ns, [], _, .nil, ρ, m, cm, hk, h0, x, v, e => h0 x v e
  | n :: ns, a :: as, u :: us, .cons ru rs, ρ, m, cm, hk, h0, x, v, e => by
    rw [List.zip_cons_cons]
    unfold bindL bindC
    refine bind_rel ns as us rs (ρ.set n a) _ _ (fun y hy => hk y (.tail _ hy)) ?_ x v e
    intro y w ey
    unfold Rho.set at ey
    have hn := hk n (.head _)
    by_cases q : y = n
    · subst q
      rw [if_pos rfl] at ey; cases ey
      unfold LocRel
      rcases hn with hn | ⟨hn, hc⟩
      · rw [hn]; simp only [if_true]; exact ⟨u, by simp, ru⟩
      · rw [hn]
        obtain ⟨c, hc⟩ := Option.isSome_iff_exists.mp hc
        simp only [Option.some.injEq, reduceCtorEq, if_false]
        exact ⟨u, c, hc, by simp, ru⟩
    · rw [if_neg q] at ey
      have := h0 y w ey
      unfold LocRel at this ⊢
      split at this
      · rename_i hy
        obtain ⟨u', a', b'⟩ := this
        refine ⟨u', ?_, b'⟩
        split
        · simp [q, a']
        · exact a'
      · obtain ⟨u', c', a', b', d'⟩ := this
        refine ⟨u', c', a', ?_, d'⟩
        split
        · exact b'
        · simp [q, b']
      · obtain ⟨u', c', a', b', d'⟩ := this
        refine ⟨u', c', a', ?_, d'⟩
        split
        · exact b'
        · simp [q, b']
      · trivial

def Fl.val : Fl → V
  | .ret v => v
  | _ => .none

def RetQ (Q : V → Hp → Prop) : Fl → Rho → Hp → Prop := fun fl _ H => ∃ v' H', Fz H fl.val v' H' ∧ Q v' H'

theorem FlRel.val {h : Heap} {H : Hp} : ∀ {fl : Fl} {f : Flow}, FlRel h H fl f → VRel h H fl.val (match f with | .ret v => v | _ => .none)
  | .next, .next, _ => .none
  | .brk, .brk, _ => .none
  | .cont, .cont, _ => .none
  | .ret _, .ret _, r => r

theorem FnOK.of_def {C : Cx} {k : Nat} {a : Addr} {fd : FuncData} {names : List Str} {body : List Stmt} {S : SpecT} (D : FnDef C a fd names body)
    (h : ∀ args Q R H, S args Q R H → args.length = names.length ∧ ∀ L, ExecsW C k (callEnvC fd L a) body (RetQ Q) (fun _ _ _ => False) (bindRho (fun _ => none) names args) H) :
    FnOK C (k + 1) (.ref a) S := by
  intro A lv s H args xs Q R Sm rel hs
  obtain ⟨hlen, hb⟩ := h args Q R H hs
  obtain ⟨o, ho, hd⟩ := D.obj
  have hxl : xs.length = names.length := rel.length.trans hlen
  have hkinds : ∀ x ∈ names.zip xs, fd.scope.names.lookup x.1 = some .local ∨ (fd.scope.names.lookup x.1 = some .cell ∧ ((cellsFrom (s.heap.objs.size + 1) fd.scope.names []).lookup x.1).isSome = true) := by
    intro x hx
    rcases D.kinds x.1 (List.of_mem_zip (a := x.1) (b := x.2) hx).1 with q | q
    · exact .inl q
    · exact .inr ⟨q, cellsFrom_isSome _ _ _ _ (.inl q)⟩
  refine codeAny_call_cells (by have := lv.depth; omega) (Sm.keep _ _ ho) hd (D.limit.keeps Sm.keep) (D.code.keeps Sm.keep) D.body (D.bind xs hxl) D.closure hkinds (fun s₁ X => ?_) D.co D.gen D.kind
  have hkeep := X.toInCall.keep
  obtain ⟨h₁, tk, e₁, _⟩ := X.done
  have E₁ : Ext H s.heap H s₁.heap := Ext.grown hkeep
  have S₁ : Sim C H s₁ := Sm.grown hkeep (by rw [e₁]) (by rw [e₁])
  have EO : EnvOf fd (callEnvC fd s.heap.objs.size a) := ⟨rfl, fun x hx => cellsFrom_isSome _ _ _ _ (.inl hx)⟩
  have SL : SimL C (callEnvC fd s.heap.objs.size a) (bindRho (fun _ => none) names args) H s₁ := by
    refine ⟨S₁, D.kind, D.globals, D.builtins, _, _, ⟨X.toInCall.ns, X.cell, Sm.fresh (Nat.le_refl _), fun n c e => Sm.fresh ?_, Sm.freshB (Nat.le_refl _), fun n c e => Sm.freshB ?_, fun n n' c e e' => name_of_addr X.apart (mem_of_lookup e) (mem_of_lookup e')⟩, ?_⟩
    · exact Nat.le_of_lt (X.above n c (mem_of_lookup e))
    · exact Nat.le_of_lt (X.above n c (mem_of_lookup e))
    · refine bind_rel names args xs (rel.ext E₁) _ _ _ (fun n hn => ?_) (fun x v e => by cases e)
      rcases D.kinds n hn with q | q
      · exact .inl q
      · exact .inr ⟨q, EO.cells n q⟩
  have lv' : Lv C k (A.deeper (callEnvC fd s.heap.objs.size a)) := ⟨fun e => lv.handled e, by have := lv.depth; show A.depth + 1 + 2 * k + 100 < _; omega, by have := lv.units; show A.units + 3 + 40 * k + 100 < _; omega⟩
  refine wpAny_mono (hb _ _ lv' s₁ SL) ?_ ?_
  · rintro f s' ⟨fl, ρ', H', ⟨v', H'', fz, q⟩, r, S', E'⟩
    have E'' : Ext H s.heap H' s'.heap := by
      refine ⟨fun b ob e n => E'.keep b ob (hkeep b ob e) n ?_ ?_, fun b ob e n => E'.grow b ob (hkeep b ob e) n, fun b ob e => E'.live b ob (hkeep b ob e)⟩
      · exact Nat.ne_of_lt (Heap.lt_size e)
      · intro n' e'
        have h1 := X.above n' b (mem_of_lookup e')
        have h2 := Heap.lt_size e
        exact absurd (Nat.lt_trans (show s.heap.objs.size < b from h1) h2) (Nat.lt_irrefl _)
    have rv := r.val
    obtain ⟨S'', r''⟩ := fz.2 C s' _ S'.sim rv
    exact ⟨v', H'', q, S'', r'', ⟨E''.keep, fun b ob e n => fz.1 b (E''.grow b ob e n), E''.live⟩⟩
  · rintro e s' ⟨_, _, _, q, _⟩; exact q.elim

end Mine

set_option Elab.async false
set_option linter.unusedVariables false
namespace Mine
open PySem PyProof.Rows

def ArgsW (C : Cx) (k : Nat) (env : Env) (es : List Expr) (Q : List V → Hp → Prop) (R : V → Hp → Prop) (ρ : Rho) (H : Hp) : Prop :=
  ∀ A, Lv C k A → ∀ s, SimL C env ρ H s → ∀ pos, wpAny C.M A (spliced (backTo pos (starEach es env))) (Post C H s.heap VRelL Q) (Post C H s.heap VRel R) s

variable {C : Cx} {k : Nat} {env : Env} {ρ : Rho} {H : Hp} {Q R : V → Hp → Prop} {QL : List V → Hp → Prop}

theorem ArgsW.nil (h : QL [] H) : ArgsW C k env [] QL R ρ H := fun A a s S pos => args_nil (Post.here h S.sim .nil rfl)
theorem ArgsW.cons {e rest} (h : EvalW C k env e (fun v H₁ => ArgsW C k env rest (fun vs H₂ => QL (v :: vs) H₂) R ρ H₁) R ρ H)
    (he : starEach (e :: rest) env = (false, eval e env) :: starEach rest env := by rfl) : ArgsW C k env (e :: rest) QL R ρ H := fun A a s S pos => by
  refine args_cons ?_ he
  refine wp_go (h A a s S) fun x v H₁ s₁ h₁ S₁ r₁ E₁ => wp_go (h₁ A a s₁ (S.ext S₁ E₁) pos) (fun xs vs H₂ s₂ h₂ S₂ r₂ E₂ => ?_) fun _ _ p => p.after E₁
  exact ⟨_, H₂, h₂, S₂, .cons (r₁.ext E₂) r₂, E₁.trans E₂⟩

theorem evalArgs_any {M : Model} {A : Around} {E : Value → Shared → Prop} {s : Shared} {f : Value} {args : List (Bool × Sem Value)} {Q : Args → Shared → Prop} (hplain : args.any (·.1) = false)
    (h : wpAny M A (spliced args) (fun vs s' => Q ⟨vs, []⟩ s') E s) : wpAny M A (evalArgs f true args []) Q E s := by
  cases args with
  | nil =>
    unfold evalArgs
    show wpAny M A (spliced [] >>= _) Q E s
    refine wpAny_bind (wpAny_mono h (fun vs s' h' => ?_) fun _ _ x => x)
    refine wpAny_holding ?_
    exact wpAny_bind (wpAny_pure (wpAny_bind (wpAny_pure (wpAny_pure h'))))
  | cons x rest =>
    obtain ⟨b, x⟩ := x
    have : b = false := by simp at hplain; exact hplain.1
    subst this
    exact Calls.evalArgs_plain h

/-- a callee that a plain call reaches: its arguments, then the call -/
def Plainly (C : Cx) (f : Value) : Prop :=
  ∀ (A : Around) (E : Value → Shared → Prop) (Q : Value → Shared → Prop) (s : Shared) (first : List Value) (pos : Pos) (args : List (Bool × Sem Value)), args.any (·.1) = false →
    wpAny C.M A (spliced args) (fun vs s₁ => (∀ b o, C.base.get? b = some o → s₁.heap.get? b = some o) ∧ wpAny C.M A (call f (first ++ vs)) Q E s₁) E s → wpAny C.M A (callWith pos f first args []) Q E s
theorem Plainly.builtin (id : String) : Plainly C (.builtin id) := fun A E Q s first pos args hp h =>
  Calls.callWith_builtin hp (evalArgs_any hp (wpAny_mono h (fun _ _ x => x.2) fun _ _ x => x))
theorem Plainly.type (T : String) : Plainly C (.type T) := fun A E Q s first pos args hp h =>
  PySem.callWith_type hp (evalArgs_any hp (wpAny_mono h (fun _ _ x => x.2) fun _ _ x => x))
theorem Plainly.fn {a : Addr} {o : Obj} {fd : FuncData} (ho : C.base.get? a = some o) (hd : o.data = .func fd) : Plainly C (.ref a) := fun A E Q s first pos args hp h =>
  Calls.callWith_function (o := o) (fd := fd) (evalArgs_any hp (wpAny_mono h (fun _ _ x => ⟨⟨x.1 _ _ ho, hd⟩, x.2⟩) fun _ _ x => x))
theorem backTo_plain {pos : Pos} : ∀ {l : List (Bool × Sem Value)}, l.any (·.1) = false → (backTo pos l).any (·.1) = false
  | [], _ => rfl
  | (b, t) :: r, h => by
    have h' : (b || r.any (·.1)) = false := h
    have hb : b = false := by revert h'; cases b <;> simp
    subst hb
    show (false || (backTo pos r).any (·.1)) = false
    rw [backTo_plain (by simpa using h')]; rfl

theorem EvalW.call {f args pos} (h : EvalW C k env f (fun v H₁ => ∃ u, v = .con u ∧ Plainly C u ∧ ArgsW C k env args (fun vs H₂ => CallW C k u vs Q R H₂) R ρ H₁) R ρ H)
    (he : eval (.Call f args [] pos) env = (do callWith pos (← eval f env) [] (backTo pos (starEach args env)) (backToKw pos (keywordEach [] env))) := by rfl)
    (hp : (starEach args env).any (·.1) = false := by rfl) : EvalW C k env (.Call f args [] pos) Q R ρ H := fun A a s S => by
  refine Call_ (wp_go (h A a s S) fun x v H₁ s₁ h₁ S₁ r₁ E₁ => ?_) he
  obtain ⟨u, rfl, pl, h₁⟩ := h₁
  have hx : x = u := by cases r₁; rfl
  subst hx
  refine pl A _ _ s₁ [] pos _ (backTo_plain hp) (wp_go (h₁ A a s₁ (S.ext S₁ E₁) pos) (fun xs vs H₂ s₂ h₂ S₂ r₂ E₂ => ⟨S₂.keep, ?_⟩) fun _ _ p => p.after E₁)
  exact wp_fin (E₁.trans E₂) (h₂ A a s₂ xs S₂ r₂)

/-- the usual form: a global name is called -/
theorem EvalW.callName {x p args pos f} (g : GlobalV C x (.con f)) (pl : Plainly C f) (hk : env.kindOf x = some .globalImplicit) (h : ArgsW C k env args (fun vs H₂ => CallW C k f vs Q R H₂) R ρ H)
    (hd : (x == ("__debug__" : Str)) = false := by decide) (hp : (starEach args env).any (·.1) = false := by rfl) : EvalW C k env (.Call (.Name x p) args [] pos) Q R ρ H :=
  EvalW.call (EvalW.global g ⟨f, rfl, pl, h⟩ hk hd) rfl hp

/-- the method that a value has -/
def MethIs (C : Cx) (H : Hp) (v : V) (name : Str) (f : Value) : Prop :=
  ∀ (A : Around) (s : Shared) (x : Value) (pl : Sem Bool) (Q : Value × List Value → Shared → Prop) (E : Value → Shared → Prop), Sim C H s → VRel s.heap H v x → Q (f, [x]) s → wpAny C.M A (getMethod x name pl) Q E s

theorem EvalW.method {o name apos args pos pl} (h : EvalW C k env o (fun v H₁ => ∃ f, MethIs C H₁ v name f ∧ Plainly C f ∧ ArgsW C k env args (fun vs H₂ => CallW C k f (v :: vs) Q R H₂) R ρ H₁) R ρ H)
    (he : eval (.Call (.Attribute o name apos) args [] pos) env = (do
      let ov ← eval o env
      standAt apos.atName
      let (f, first) ← holding [ov] (getMethod ov name pl)
      callWith pos f first (backTo pos (starEach args env)) []) := by rfl)
    (hp : (starEach args env).any (·.1) = false := by rfl) : EvalW C k env (.Call (.Attribute o name apos) args [] pos) Q R ρ H := fun A a s S => by
  refine MethodCall_ (pl := pl) (wp_go (h A a s S) fun x v H₁ s₁ h₁ S₁ r₁ E₁ => ?_) he
  obtain ⟨f, hm, hpl, h₁⟩ := h₁
  refine hm A s₁ x _ _ _ S₁ r₁ ?_
  refine hpl A _ _ s₁ [x] pos _ (backTo_plain hp) (wp_go (h₁ A a s₁ (S.ext S₁ E₁) pos) (fun xs vs H₂ s₂ h₂ S₂ r₂ E₂ => ⟨S₂.keep, ?_⟩) fun _ _ p => p.after E₁)
  exact wp_fin (E₁.trans E₂) (h₂ A a s₂ (x :: xs) S₂ (.cons (r₁.ext E₂) r₂))

/-- a tuple display; a list display -/
theorem EvalW.tuple {es n p} (h : ArgsW C k env es (fun vs H₁ => Q (.tup vs) H₁ ∧ vs.length ≤ 1000) R ρ H) : EvalW C k env (.Tuple es n p) Q R ρ H := fun A a s S => by
  refine Tuple_ (wp_go (h A a s S p) fun xs vs H₁ s₁ h₁ S₁ r₁ E₁ => ?_)
  have e1 : xs.length = vs.length := r₁.length
  have hk : ∀ b o, s₁.heap.get? b = some o → (s₁.heap.push { cls := .type "tuple", data := .seq xs.toArray }).get? b = some o := fun b o e => Heap.get?_push_of_some _ e
  refine wpAny_newObj_type (?_) (by show xs.toArray.size ≤ sizeLine; rw [List.size_toArray, e1]; exact Nat.le_trans h₁.2 (by decide))
  refine ⟨.tup vs, H₁, h₁.1, S₁.grown (s' := { s₁ with heap := s₁.heap.push _ }) hk rfl rfl, .tup ⟨_, Heap.get?_push_size _ rfl, rfl, _, rfl⟩ (S₁.fresh (Nat.le_refl _)) (r₁.ext (Ext.grown hk)), E₁.trans (Ext.grown hk)⟩

/-- a new owned object -/
theorem Sim.alloc {C : Cx} {H : Hp} {s s' : Shared} {o : O} (S : Sim C H s) (hk : ∀ a o, s.heap.get? a = some o → s'.heap.get? a = some o) (hg : s'.gens = s.gens) (ho : s'.os = s.os)
    (hr : ORel C s'.heap (H.set s.heap.objs.size o) s.heap.objs.size o) : Sim C (H.set s.heap.objs.size o) s' ∧ Ext H s.heap (H.set s.heap.objs.size o) s'.heap := by
  have E : Ext H s.heap (H.set s.heap.objs.size o) s'.heap := by
    refine ⟨fun a ob e _ => hk a ob e, fun a ob e n => ?_, fun a ob e => ⟨ob, hk a ob e⟩⟩
    unfold Hp.set
    rw [if_neg (Nat.ne_of_lt (Heap.lt_size e))]; exact n
  refine ⟨⟨fun a o e => hk a o (S.keep a o e), hg.trans S.gens, ho.trans S.os, fun a o' e => ?_, fun a e => ?_⟩, E⟩
  · unfold Hp.set at e
    split at e
    · rename_i q; subst q; cases e; exact hr
    · have r := S.objs a o' e
      obtain ⟨ob', e'⟩ := r.lt
      exact r.same E.v ((hk a ob' e').trans e'.symm)
  · unfold Hp.set at e
    split at e
    · rename_i q; subst q; exact ⟨S.freshB (Nat.le_refl _), S.freshS (Nat.le_refl _)⟩
    · exact S.new a e

theorem newList_W {A : Around} {xs : List Value} {vs : List V} {s : Shared} {E : Value → Shared → Prop} {P : Value → Shared → Prop} (S : Sim C H s) (r : VRelL s.heap H vs xs) (hn : vs.length ≤ 1000)
    (h : ∀ a s', H a = none → Sim C (H.set a (.list vs)) s' → Ext H s.heap (H.set a (.list vs)) s'.heap → P (.ref a) s') : wpAny C.M A (newList xs) P E s := by
  have e1 : xs.length = vs.length := r.length
  have hk : ∀ b o, s.heap.get? b = some o → (s.heap.push { cls := .type "list", data := .seq xs.toArray }).get? b = some o := fun b o e => Heap.get?_push_of_some _ e
  refine wpAny_newObj_type (?_) (by show xs.toArray.size ≤ sizeLine; rw [List.size_toArray, e1]; exact Nat.le_trans hn (by decide))
  have E0 : Ext H s.heap (H.set s.heap.objs.size (.list vs)) (s.heap.push { cls := .type "list", data := .seq xs.toArray }) :=
    ⟨fun a ob e _ => hk a ob e, fun a ob e n => by unfold Hp.set; rw [if_neg (Nat.ne_of_lt (Heap.lt_size e))]; exact n, fun a ob e => ⟨ob, hk a ob e⟩⟩
  obtain ⟨S', E'⟩ := S.alloc (s' := { s with heap := s.heap.push { cls := .type "list", data := .seq xs.toArray } }) hk rfl rfl (o := .list vs) ⟨xs.toArray, ⟨_, Heap.get?_push_size _ rfl⟩, by simpa using r.ext E0⟩
  exact h _ _ (S.fresh (Nat.le_refl _)) S' E'
theorem EvalW.list {es p} (h : ArgsW C k env es (fun vs H₁ => vs.length ≤ 1000 ∧ ∀ a, H₁ a = Option.none → Q (.ref a) (H₁.set a (.list vs))) R ρ H) : EvalW C k env (.List es p) Q R ρ H := fun A a s S =>
  List_ (wp_go (h A a s S p) fun xs vs H₁ s₁ h₁ S₁ r₁ E₁ => newList_W S₁ r₁ h₁.1 fun b s' n S' E' => ⟨.ref b, _, h₁.2 b n, S', .ref b, E₁.trans E'⟩)
/-- a list display that nobody will change -/
theorem EvalW.list_fz {es p} (h : ArgsW C k env es (fun vs H₁ => vs.length ≤ 1000 ∧ Q (.lst vs) H₁) R ρ H) : EvalW C k env (.List es p) Q R ρ H := fun A a s S => by
  refine List_ (wp_go (h A a s S p) fun xs vs H₁ s₁ h₁ S₁ r₁ E₁ => ?_)
  have e1 : xs.length = vs.length := r₁.length
  have hk : ∀ b o, s₁.heap.get? b = some o → (s₁.heap.push { cls := .type "list", data := .seq xs.toArray }).get? b = some o := fun b o e => Heap.get?_push_of_some _ e
  refine wpAny_newObj_type (?_) (by show xs.toArray.size ≤ sizeLine; rw [List.size_toArray, e1]; exact Nat.le_trans h₁.1 (by decide))
  refine ⟨.lst vs, H₁, h₁.2, S₁.grown (s' := { s₁ with heap := s₁.heap.push _ }) hk rfl rfl, .lst ⟨_, Heap.get?_push_size _ rfl, rfl, _, rfl⟩ (S₁.fresh (Nat.le_refl _)) (r₁.ext (Ext.grown hk)), E₁.trans (Ext.grown hk)⟩

end Mine

set_option Elab.async false
set_option linter.unusedVariables false
namespace Mine
open PySem PyProof.Rows

/-- all but name tables and cells stays -/
def ExtW (H : Hp) (h : Heap) (H' : Hp) (h' : Heap) : Prop :=
  ∀ a o, h.get? a = some o → H a = none → (∀ es n, o.data ≠ .dict es n) → (∀ v, o.data ≠ .cell v) → h'.get? a = some o ∧ H' a = none
theorem Ext.w {H h H' h'} (E : Ext H h H' h') : ExtW H h H' h' := fun a o e n _ _ => ⟨E.keep a o e n, E.grow a o e n⟩
theorem ExtW.trans {H h H' h' H'' h''} (x : ExtW H h H' h') (y : ExtW H' h' H'' h'') : ExtW H h H'' h'' :=
  fun a o e n d c => let ⟨e1, n1⟩ := x a o e n d c; y a o e1 n1 d c
theorem ExtW.v {H h H' h'} (E : ExtW H h H' h') : ExtV H h H' h' := fun a o xs m e d n => E a o e n (fun _ _ q => by rw [d] at q; cases q) (fun _ q => by rw [d] at q; cases q)
theorem ExtF.w {C : Cx} {env : Env} {ρ : Rho} {H H' : Hp} {s : Shared} {h' : Heap} (S : SimL C env ρ H s) (E : ExtF env H s.heap H' h') : ExtW H s.heap H' h' := fun a o e n d c => by
  obtain ⟨m, cm, F, _⟩ := S.frm
  refine ⟨E.keep a o e n (fun q => ?_) (fun x q => ?_), E.grow a o e n⟩
  · subst q; obtain ⟨oL, es, ep, eL, dL, _⟩ := F.ns; rw [eL] at e; cases e; exact d _ _ dL
  · obtain ⟨oc, ec, dc⟩ := F.cell x a q; rw [ec] at e; cases e; exact c _ dc

/-- records (iterators) were moved on, new objects may have come -/
structure Moved (wr : List Addr) (s s' : Shared) : Prop where
  keep : ∀ b o, b ∉ wr → s.heap.get? b = some o → s'.heap.get? b = some o
  gens : s'.gens = s.gens
  os : s'.os = s.os

structure Tmp (C : Cx) (H : Hp) (wr : List Addr) (h : Heap) : Prop where
  fld : ∀ b ∈ wr, ∃ o fs, h.get? b = some o ∧ o.data = .fields fs
  own : ∀ b ∈ wr, H b = none
  new : ∀ b ∈ wr, C.base.get? b = none

theorem Moved.extV {C H wr s s'} (T : Tmp C H wr s.heap) (M : Moved wr s s') : ExtV H s.heap H s'.heap := fun a o xs n e d m =>
  ⟨M.keep a o (fun q => by obtain ⟨o', fs, e', d'⟩ := T.fld a q; rw [e'] at e; cases e; rw [d'] at d; cases d) e, m⟩
theorem Sim.moved {C H wr s s'} (S : Sim C H s) (T : Tmp C H wr s.heap) (M : Moved wr s s') : Sim C H s' := by
  refine ⟨fun a o e => M.keep a o (fun q => ?_) (S.keep a o e), M.gens.trans S.gens, M.os.trans S.os, fun a o e => ?_, S.new⟩
  · rw [T.new a q] at e; cases e
  · have r := S.objs a o e
    obtain ⟨ob', e'⟩ := r.lt
    exact r.same (M.extV T) ((M.keep a ob' (fun q => by rw [T.own a q] at e; cases e) e').trans e'.symm)
theorem SimL.moved {C env ρ H wr s s'} (S : SimL C env ρ H s) (T : Tmp C H wr s.heap) (M : Moved wr s s') : SimL C env ρ H s' := by
  obtain ⟨m, cm, F, r⟩ := S.frm
  refine ⟨S.sim.moved T M, S.kind, S.globals, S.builtins, m, cm, ⟨?_, fun n c e => ?_, F.own, F.ownc, F.above, F.abovec, F.apart⟩, fun x v e => (r x v e).extV (M.extV T)⟩
  · obtain ⟨oL, es, ep, eL, dL, rL⟩ := F.ns
    exact ⟨oL, es, ep, M.keep _ _ (fun q => by obtain ⟨o', fs, e', d'⟩ := T.fld _ q; rw [e'] at eL; cases eL; rw [d'] at dL; cases dL) eL, dL, rL⟩
  · obtain ⟨oc, ec, dc⟩ := F.cell n c e
    exact ⟨oc, M.keep _ _ (fun q => by obtain ⟨o', fs, e', d'⟩ := T.fld _ q; rw [e'] at ec; cases ec; rw [d'] at dc; cases dc) ec, dc⟩
theorem ExtF.moved {env H h₀ H₁ wr s s'} (E : ExtF env H h₀ H₁ s.heap) (M : Moved wr s s') (hn : ∀ b ∈ wr, h₀.get? b = none) : ExtF env H h₀ H₁ s'.heap := by
  have hb : ∀ a o, h₀.get? a = some o → a ∉ wr := fun a o e q => by rw [hn a q] at e; cases e
  exact ⟨fun a o e n n1 n2 => M.keep a o (hb a o e) (E.keep a o e n n1 n2), E.grow, fun a o e => let ⟨o', e'⟩ := E.live a o e; ⟨o', M.keep a o' (hb a o e) e'⟩⟩
theorem Ext.moved {H h₀ H₁ wr s s'} (E : Ext H h₀ H₁ s.heap) (M : Moved wr s s') (hn : ∀ b ∈ wr, h₀.get? b = none) : Ext H h₀ H₁ s'.heap := by
  have hb : ∀ a o, h₀.get? a = some o → a ∉ wr := fun a o e q => by rw [hn a q] at e; cases e
  exact ⟨fun a o e n => M.keep a o (hb a o e) (E.keep a o e n), E.grow, fun a o e => let ⟨o', e'⟩ := E.live a o e; ⟨o', M.keep a o' (hb a o e) e'⟩⟩
/-- an iterator that yields the items, one by one -/
def IsTupleE (tup : Bool) (target : Expr) : Prop := tup = true → ∃ es n p, target = .Tuple es n p

structure ItrOK (C : Cx) (tup : Bool) (I : Addr) (wr : List Addr) (St : List V → Hp → Heap → Prop) (cond : Hp → Prop) : Prop where
  tmp : ∀ r H h, St r H h → Tmp C H wr h
  next : ∀ A, A.units + 1 < cLine → ∀ s v r H (P : Option Value → Shared → Prop) (E : Value → Shared → Prop), Sim C H s → cond H → St (v :: r) H s.heap →
    (∀ x s', (∀ target, IsTupleE tup target → ∀ (P' : Unit → Shared → Prop), (∀ s'', VRel s''.heap H v x → St r H s''.heap → Moved wr s s'' → P' () s'') → wpAny C.M A (letOwnedTupleGo target (.ref I) x) P' E s') → P (some x) s') → wpAny C.M A (pyNext (.ref I)) P E s
  done : ∀ A s H (P : Option Value → Shared → Prop) (E : Value → Shared → Prop), A.handled = none → A.units + 1 < cLine → Sim C H s → cond H → St [] H s.heap → (∀ s', Moved wr s s' → P none s') → wpAny C.M A (pyNext (.ref I)) P E s
  self : ∀ A s r H (P : Value → Shared → Prop) (E : Value → Shared → Prop), St r H s.heap → P (.ref I) s → wpAny C.M A (pyIter (.ref I)) P E s
  frame : ∀ r H h H' h', St r H h → ExtW H h H' h' → cond H' → St r H' h'

def AssignW (C : Cx) (k : Nat) (env : Env) (target : Expr) (v : V) (Q : Rho → Prop) (ρ : Rho) (H : Hp) : Prop :=
  ∀ A, Lv C k A → ∀ s x, SimL C env ρ H s → VRel s.heap H v x → ∀ (P : Unit → Shared → Prop) E, (∀ ρ' s', Q ρ' → SimL C env ρ' H s' → ExtF env H s.heap H s'.heap → P () s') → wpAny C.M A (assign target env x) P E s

variable {C : Cx} {k : Nat} {env : Env} {ρ : Rho} {H : Hp}

theorem AssignW.name {x p v} {Q : Rho → Prop} (hk : Storable env x) (h : Q (ρ.set x v)) : AssignW C k env (.Name x p) v Q ρ H := fun A a s u S r P E hP =>
  wpAny_assign_Name (store_W hk S r fun s' S' E' _ => hP _ s' h S' E')

/-- several names at once -/
inductive StA (env : Env) : List Expr → List Str → Prop
  | nil : StA env [] []
  | cons {x : Str} {p : Pos} {es : List Expr} {xs : List Str} (hx : Storable env x) (hr : StA env es xs) : StA env (.Name x p :: es) (x :: xs)
def setAll (ρ : Rho) : List Str → List V → Rho
  | x :: r, v :: t => setAll (ρ.set x v) r t
  | _, _ => ρ
theorem assignEach_length {es : List Expr} {xs : List Str} (h : StA env es xs) : (assignEach es env).length = xs.length ∧ (assignEach es env).findIdx? (·.1) = none := by
  induction h with
  | nil => exact ⟨rfl, rfl⟩
  | @cons x p es xs hx hr ih =>
    obtain ⟨a, b⟩ := ih
    refine ⟨by show (assignEach es env).length + 1 = _; rw [a]; rfl, ?_⟩
    show List.findIdx? (·.1) ((false, assign (.Name x p) env) :: assignEach es env) = none
    rw [List.findIdx?_cons, b]; rfl
theorem assignInOrder_W {A : Around} {E : Value → Shared → Prop} {P : Unit → Shared → Prop} {es : List Expr} {xs : List Str} (hst : StA env es xs) : ∀ (vs : List V) (us : List Value) (ρ : Rho) (s : Shared), vs.length = xs.length → SimL C env ρ H s → VRelL s.heap H vs us →
    (∀ s', SimL C env (setAll ρ xs vs) H s' → ExtF env H s.heap H s'.heap → P () s') → wpAny C.M A (assignInOrder ((assignEach es env).map (·.2)) us) P E s := by
  induction hst with
  | nil =>
    intro vs us ρ s hl S r h
    cases vs with
    | nil => cases r; exact wpAny_pure (h s S (ExtF.refl _ _ _))
    | cons v t => cases hl
  | @cons x p es xs hx hr ih =>
    intro vs us ρ s hl S r h
    cases r with
    | nil => cases hl
    | @cons v u vs us rv rl =>
      show wpAny C.M A (assignInOrder (assign (.Name x p) env :: (assignEach es env).map (·.2)) (u :: us)) P E s
      unfold assignInOrder
      refine wpAny_bind (wpAny_holding (wpAny_assign_Name (store_W hx S rv fun s' S' E' _ => ?_)))
      exact ih vs us (ρ.set x v) s' (by simpa using hl) S' (rl.extV (E'.w S).v) fun s'' S'' E'' => h s'' S'' (E'.trans E'')

theorem AssignW.tuple {es n p xs vs} {Q : Rho → Prop} (hst : StA env es xs) (hl : vs.length = xs.length) (hd : C.hd = true) (h : Q (setAll ρ xs vs)) : AssignW C k env (.Tuple es n p) (.tup vs) Q ρ H := fun A a s u S r P E hP => by
  cases r with
  | @tup ad l ys ha ho rl =>
    obtain ⟨l1, l2⟩ := assignEach_length hst
    have hz : ys.size = vs.length := by have := rl.length; simpa using this
    refine wpAny_assign_Tuple (a.handled hd) ha (l1.trans (hl.symm.trans hz.symm)) l2 fun h' he => ?_
    have hk : ∀ b o, s.heap.get? b = some o → h'.get? b = some o := fun b o e => he b o (Nat.ne_of_lt (Heap.lt_size e)) e
    have S1 : Sim C H { s with heap := h' } := S.sim.grown (s' := { s with heap := h' }) hk rfl rfl
    have SL : SimL C env ρ H { s with heap := h' } := S.ext S1 (Ext.grown hk)
    exact assignInOrder_W hst vs ys.toList ρ { s with heap := h' } hl SL (rl.ext (Ext.grown hk)) fun s' S' E' => hP _ s' h S' ((Ext.grown hk).toF.trans E')

end Mine

set_option Elab.async false
set_option linter.unusedVariables false
namespace Mine
open PySem PyProof.Rows

/-- an expression is evaluated and iterated over: K gets the items -/
def IterE (C : Cx) (k : Nat) (env : Env) (tup : Bool) (e : Expr) (K : List V → (Hp → Prop) → Hp → Prop) (R : V → Hp → Prop) (ρ : Rho) (H : Hp) : Prop :=
  ∀ A, Lv C k A → ∀ s, SimL C env ρ H s → ∀ (P : Value → Shared → Prop) (PE : Value → Shared → Prop), (∀ e s', Post C H s.heap VRel R e s' → PE e s') →
    (∀ I wr St items cond H₂ s₂, K items cond H₂ → ItrOK C tup I wr St cond → cond H₂ → St items H₂ s₂.heap → (∀ b ∈ wr, s.heap.get? b = none) → Sim C H₂ s₂ → Ext H s.heap H₂ s₂.heap → P (.ref I) s₂) →
    wpAny C.M A (eval e env) (fun x s₁ => wpAny C.M A (pyIter x) P PE s₁) PE s

variable {C : Cx} {k : Nat} {env : Env} {ρ : Rho} {H : Hp} {Q : Fl → Rho → Hp → Prop} {R : V → Rho → Hp → Prop} {RE : V → Hp → Prop}

/-- the loop itself -/
theorem for_core {target : Expr} {body : List Stmt} {I : Addr} {wr : List Addr} {St : List V → Hp → Heap → Prop} {cond : Hp → Prop} {tup : Bool} (IT : ItrOK C tup I wr St cond) (ht : IsTupleE tup target) (hd : C.hd = true) {A : Around} (lv : Lv C k A)
    (Inv : List V → Rho → Hp → Prop) (hc : ∀ r ρ H, Inv r ρ H → cond H)
    (step : ∀ v r ρ H, Inv (v :: r) ρ H → AssignW C k env target v (fun ρ' => ExecsW C k env body (fun fl ρ'' H'' => match fl with
      | .next => Inv r ρ'' H'' | .cont => Inv r ρ'' H'' | .brk => Q .next ρ'' H'' | .ret u => Q (.ret u) ρ'' H'') (fun _ _ _ => False) ρ' H) ρ H)
    (fin : ∀ ρ H, Inv [] ρ H → Q .next ρ H)
    {h₀ : Heap} {H₀ : Hp} (hn : ∀ b ∈ wr, h₀.get? b = none) {PE : Result → Shared → Prop}
    (hPE : ∀ f s', PostS C env H₀ h₀ Q f s' → PE (.ok f) s')
    (items : List V) (s : Shared) (S : SimL C env ρ H s) (E : ExtF env H₀ h₀ H s.heap) (st : St items H s.heap) (h0 : Inv items ρ H) :
    codeAny C.M A (.forLoop target (.ref I) body [] env) PE s := by
  have hu : A.units + 1 < cLine := by have := lv.units; omega
  refine codeAny_forLoop_any (fun n s' => ∃ r ρ H, n = r.length + 1 ∧ Inv r ρ H ∧ SimL C env ρ H s' ∧ ExtF env H₀ h₀ H s'.heap ∧ St r H s'.heap) ?_ (items.length + 1) ⟨items, ρ, H, rfl, h0, S, E, st⟩
  rintro n s ⟨r, ρ, H, rfl, hI, S, E, st⟩
  have T := IT.tmp _ _ _ st
  cases r with
  | nil =>
    refine IT.done A s H _ _ (lv.handled hd) hu S.sim (hc _ _ _ hI) st fun s' M => ?_
    refine wpAny_execs_nil (hPE _ _ ⟨.next, ρ, H, fin ρ H hI, trivial, S.moved T M, E.moved M hn⟩)
  | cons v r =>
    refine IT.next A hu s v r H _ _ S.sim (hc _ _ _ hI) st fun x s' hlet => ?_
    refine hlet target ht _ fun s'' rx'' st'' M'' => ?_
    have S'' := S.moved T M''
    have E'' := E.moved M'' hn
    refine step v r ρ H hI A lv s'' x S'' rx'' _ _ fun ρ' s₃ hb S₃ E₃ => ?_
    refine wpAny_mono (hb A lv s₃ S₃) ?_ ?_
    · rintro f s₄ ⟨fl, ρ₄, H₄, q, rf, S₄, E₄⟩
      have E' := E''.trans (E₃.trans E₄)
      have st₄ : ∀ (hI' : Inv r ρ₄ H₄), St r H₄ s₄.heap := fun hI' => IT.frame _ _ _ _ _ st'' ((E₃.trans E₄).w S'') (hc _ _ _ hI')
      cases fl <;> cases f <;> first | exact rf.elim | skip
      · exact ⟨r.length + 1, by simp, r, ρ₄, H₄, rfl, q, S₄, E', st₄ q⟩
      · exact hPE _ _ ⟨.next, ρ₄, H₄, q, trivial, S₄, E'⟩
      · exact ⟨r.length + 1, by simp, r, ρ₄, H₄, rfl, q, S₄, E', st₄ q⟩
      · exact hPE _ _ ⟨.ret _, ρ₄, H₄, q, rf, S₄, E'⟩
    · rintro e s₄ ⟨_, _, _, q, _⟩; exact q.elim

/-- while: by an invariant that counts down -/
theorem ExecW.while_ {test body pos} (Inv : Nat → Rho → Hp → Prop) (n : Nat) (h0 : Inv n ρ H)
    (step : ∀ n ρ H, Inv n ρ H → TestW C k env test (fun b H' => if b = true then ExecsW C k env body (fun fl ρ'' H'' => match fl with
      | .next => ∃ m, m < n ∧ Inv m ρ'' H'' | .cont => ∃ m, m < n ∧ Inv m ρ'' H'' | .brk => Q .next ρ'' H'' | .ret u => Q (.ret u) ρ'' H'') (fun _ _ _ => False) ρ H' else Q .next ρ H') (fun _ _ => False) ρ H) :
    ExecW C k env (.While test body [] pos) Q R ρ H := fun A a s₀ S₀ => by
  refine wpAny_While ?_
  refine codeAny_whileLoop (fun n s' => ∃ ρ' H', Inv n ρ' H' ∧ SimL C env ρ' H' s' ∧ ExtF env H s₀.heap H' s'.heap) ?_ n ⟨ρ, H, h0, S₀, ExtF.refl _ _ _⟩
  rintro n s ⟨ρ, H, hI, S, E⟩
  refine wpAny_mono (step n ρ H hI A a s S) ?_ ?_
  · rintro b s' ⟨b', H', q, S', rfl, E'⟩
    cases b'
    · simp only [Bool.false_eq_true, if_false] at q ⊢
      exact wpAny_execs_nil ⟨.next, ρ, H', q, trivial, S.ext S' E', E.trans E'.toF⟩
    · simp only [if_true] at q ⊢
      refine wpAny_mono (q A a s' (S.ext S' E')) ?_ ?_
      · rintro f s₄ ⟨fl, ρ₄, H₄, q, rf, S₄, E₄⟩
        have E'' := E.trans (E'.toF.trans E₄)
        cases fl <;> cases f <;> first | exact rf.elim | skip
        · obtain ⟨m, hm, q⟩ := q; exact ⟨m, hm, ρ₄, H₄, q, S₄, E''⟩
        · exact ⟨.next, ρ₄, H₄, q, trivial, S₄, E''⟩
        · obtain ⟨m, hm, q⟩ := q; exact ⟨m, hm, ρ₄, H₄, q, S₄, E''⟩
        · exact ⟨.ret _, ρ₄, H₄, q, rf, S₄, E''⟩
      · rintro e s₄ ⟨_, _, _, q, _⟩; exact q.elim
  · rintro e s₄ ⟨_, _, q, _⟩; exact q.elim

/-- views -/
def lview (H : Hp) : V → Option (List V)
  | .lst l => some l
  | .ref a => match H a with
    | some (.list l) => some l
    | _ => none
  | _ => none
theorem lview_list {s : Shared} {v : V} {l : List V} {x : Value} (hl : lview H v = some l) (S : Sim C H s) (r : VRel s.heap H v x) : ∃ a xs, x = .ref a ∧ s.heap.IsList a xs ∧ VRelL s.heap H l xs.toList := by
  cases r with
  | lst ha ho rl => cases hl; exact ⟨_, _, rfl, ha, rl⟩
  | ref a =>
    simp only [lview] at hl
    split at hl
    · rename_i l' e
      cases hl
      obtain ⟨xs, h1, h2⟩ := S.objs _ _ e
      exact ⟨a, xs, rfl, h1.isList, h2⟩
    · cases hl
  | _ => cases hl

/-- the iterator over a list that stays as it is -/
def lcond (v : V) (l : List V) : Hp → Prop := fun H => lview H v = some l
theorem itr_list {tup : Bool} {v : V} {l : List V} {a : Addr} {I : Addr} (hv : v = .lst l ∨ v = .ref a) (hI : C.base.get? I = none) :
    ItrOK C tup I [I] (fun r H h => ∃ i, h.IsListIter I a i ∧ H I = none ∧ VRel h H v (.ref a) ∧ r = l.drop i ∧ i ≤ l.length) (lcond v l) where
  tmp := by
    rintro r H h ⟨i, ⟨o, e, c, d⟩, n, _⟩
    exact ⟨fun b hb => by simp at hb; subst hb; exact ⟨o, _, e, d⟩, fun b hb => by simp at hb; subst hb; exact n, fun b hb => by simp at hb; subst hb; exact hI⟩
  next := by
    rintro A hu1 s u r H P E S hc ⟨i, hit, n, rv, hr, hi⟩ hP
    obtain ⟨a', xs, ea, hl, rl⟩ := lview_list hc S rv
    cases ea
    have hu : l[i]? = some u := by
      have := congrArg List.head? hr
      simpa [List.head?_drop] using this.symm
    have hlt : i < l.length := (List.getElem?_eq_some_iff.mp hu).1
    have hrest : r = l.drop (i + 1) := by
      have := congrArg List.tail hr
      simpa [List.tail_drop] using this
    obtain ⟨x, ex, rx⟩ := rl.get hu
    have haI : a ≠ I := fun q => by
      subst q
      obtain ⟨o, e, c, _⟩ := hit
      obtain ⟨o', e', c', _⟩ := hl
      rw [e] at e'; cases e'; rw [c] at c'; exact absurd c' (by decide)
    refine wpAny_pyNext_list_item hit hl (by simpa using ex) fun h' hit' hs => ?_
    have M : Moved [I] s { s with heap := h' } := ⟨fun b o hb e => hs.extBut b o (fun q => hb (by simp [q])) e, rfl, rfl⟩
    · have T : Tmp C H [I] s.heap := by
        obtain ⟨o, e, c, d⟩ := hit
        exact ⟨fun b hb => by simp at hb; subst hb; exact ⟨o, _, e, d⟩, fun b hb => by simp at hb; subst hb; exact n, fun b hb => by simp at hb; subst hb; exact hI⟩
      have V1 := M.extV T
      have st' : ∃ j, h'.IsListIter I a j ∧ H I = none ∧ VRel h' H v (.ref a) ∧ r = l.drop j ∧ j ≤ l.length := ⟨i + 1, hit', n, rv.extV V1, hrest, hlt⟩
      refine hP x _ fun target _ P' hP' => ?_
      have : wpAny C.M A (letOwnedTupleGo target (.ref I) x) P' E { s with heap := h' } := by
        have hend := hP' { s with heap := h' } (rx.extV V1) st' M
        unfold letOwnedTupleGo
        split
        · cases x <;> first | exact wpAny_pure hend | skip
          obtain ⟨o, e, c, d⟩ := hit'
          refine wpAny_bind (wpAny_load e ?_)
          rw [c, d]
          dsimp only
          rw [if_neg (by simp)]
          exact wpAny_pure hend
        · cases x <;> first | exact wpAny_pure hend | skip
          obtain ⟨o, e, c, d⟩ := hit'
          refine wpAny_bind (wpAny_load e ?_)
          rw [c, d]
          dsimp only
          rw [if_neg (by simp)]
          exact wpAny_pure hend
        · exact wpAny_pure hend
      exact this
  done := by
    rintro A s H P E hh hu S hc ⟨i, hit, n, rv, hr, hi⟩ hP
    obtain ⟨a', xs, ea, hl, rl⟩ := lview_list hc S rv
    cases ea
    have hlen : xs.size = l.length := by have := rl.length; simpa using this
    have hx : xs[i]? = none := by
      have : l.length ≤ i := by
        have := congrArg List.length hr
        simp at this; omega
      simp; omega
    refine wpAny_pyNext_list_end hh hit hl hx fun h' he => ?_
    exact hP _ ⟨fun b o hb e => he b o (fun q => hb (by simp [q])) e, rfl, rfl⟩
  self := by
    rintro A s r H P E ⟨i, hit, _⟩ hP
    exact wpAny_pyIter_listiter hit hP
  frame := by
    rintro r H h H' h' ⟨i, ⟨o, e, c, d⟩, n, rv, hr, hi⟩ E hc
    have := E I o e n (fun _ _ q => by rw [d] at q; cases q) (fun _ q => by rw [d] at q; cases q)
    exact ⟨i, ⟨o, this.1, c, d⟩, this.2, rv.extV E.v, hr, hi⟩

end Mine

set_option Elab.async false
set_option linter.unusedVariables false
namespace Mine
open PySem PyProof.Rows

variable {C : Cx} {k : Nat} {env : Env} {ρ : Rho} {H : Hp} {R : V → Hp → Prop}

theorem Ext.new_none {H h H' h' a} (E : Ext H h H' h') (ha : h'.objs.size ≤ a) : h.get? a = none := by
  cases e : h.get? a with
  | none => rfl
  | some o => obtain ⟨o', e'⟩ := E.live a o e; exact absurd (Heap.lt_size e') (Nat.not_lt.mpr ha)

def rangeV (n : Nat) : List V := (List.range n).map fun i => V.int (i : Nat)
theorem ints_get {n i : Nat} (h : i < n) : (rangeV n)[i]? = some (.int (i : Nat)) := by simp [rangeV, h]
theorem ints_length {n : Nat} : (rangeV n).length = n := by simp [rangeV]

theorem tmp_one {I : Addr} {h : Heap} {o : Obj} {fs} (e : h.get? I = some o) (d : o.data = .fields fs) (n : H I = none) (hI : C.base.get? I = none) : Tmp C H [I] h :=
  ⟨fun b hb => by simp at hb; subst hb; exact ⟨o, _, e, d⟩, fun b hb => by simp at hb; subst hb; exact n, fun b hb => by simp at hb; subst hb; exact hI⟩

/-- letting go: nothing to do where the iterator is none of the owned-tuple kinds -/
theorem letGo_plain {M : Model} {A : Around} {E : Value → Shared → Prop} {s : Shared} {target : Expr} {I : Addr} {x : Value} {P' : Unit → Shared → Prop} {o : Obj} {n : String} {fs} (e : s.heap.get? I = some o) (c : o.cls = .type n) (d : o.data = .fields fs)
    (hn : (["enumerate", "zip", "dict_itemiterator", "dict_reverseitemiterator", "odict_iterator", "itertools.zip_longest", "itertools.pairwise"].contains n) = false) (h : P' () s) : wpAny M A (letOwnedTupleGo target (.ref I) x) P' E s := by
  unfold letOwnedTupleGo
  split
  · cases x <;> first | exact wpAny_pure h | skip
    refine wpAny_bind (wpAny_load e ?_)
    rw [c, d]; dsimp only
    rw [if_neg (by rw [hn]; simp)]
    exact wpAny_pure h
  · cases x <;> first | exact wpAny_pure h | skip
    refine wpAny_bind (wpAny_load e ?_)
    rw [c, d]; dsimp only
    rw [if_neg (by rw [hn]; simp)]
    exact wpAny_pure h
  · exact wpAny_pure h

theorem itr_range {tup : Bool} {N : Nat} {I : Addr} (hI : C.base.get? I = none) :
    ItrOK C tup I [I] (fun r H h => ∃ j : Nat, j ≤ N ∧ IsRangeIter h I (j : Int) ((N : Int) - (j : Int)) 1 ∧ H I = none ∧ r = (rangeV N).drop j) (fun _ => True) where
  tmp := by
    rintro r H h ⟨j, hj, e, n, _⟩
    exact tmp_one e rfl n hI
  next := by
    rintro A hu1 s u r H P E S hc ⟨j, hj, hit, n, hr⟩ hP
    have hu : (rangeV N)[j]? = some u := by
      have := congrArg List.head? hr
      simpa [List.head?_drop] using this.symm
    have hlt : j < N := by have := (List.getElem?_eq_some_iff.mp hu).1; rwa [ints_length] at this
    rw [ints_get hlt] at hu; cases hu
    have hrest : r = (rangeV N).drop (j + 1) := by
      have := congrArg List.tail hr
      simpa [List.tail_drop] using this
    refine wpAny_pyNext_range_item hit (by omega) fun h' hit' hs => ?_
    have M : Moved [I] s { s with heap := h', toks := s.toks + 1 } := ⟨fun b o hb e => hs.extBut b o (fun q => hb (by simp [q])) e, rfl, rfl⟩
    have st' : ∃ j : Nat, j ≤ N ∧ IsRangeIter h' I (j : Int) ((N : Int) - (j : Int)) 1 ∧ H I = none ∧ r = (rangeV N).drop j := by
      refine ⟨j + 1, hlt, ?_, n, hrest⟩
      have e1 : (((j + 1 : Nat)) : Int) = (j : Int) + 1 := by push_cast; rfl
      have e2 : (N : Int) - ((j + 1 : Nat) : Int) = (N : Int) - (j : Int) - 1 := by push_cast; omega
      rw [e2, e1]; exact hit'
    refine hP _ _ fun target _ P' hP' => ?_
    exact letGo_plain hit' rfl rfl (by decide) (hP' { s with heap := h', toks := s.toks + 1 } (.int _ _) st' M)
  done := by
    rintro A s H P E hh hu S hc ⟨j, hj, hit, n, hr⟩ hP
    have hle : N ≤ j := by
      have := congrArg List.length hr
      simp [ints_length] at this; omega
    refine wpAny_pyNext_range_end hh hit (by omega) fun h' he => ?_
    exact hP _ ⟨fun b o hb e => he b o (fun q => hb (by simp [q])) e, rfl, rfl⟩
  self := by
    rintro A s r H P E ⟨j, hj, hit, _⟩ hP
    exact wpAny_pyIter_rangeiter hit hP
  frame := by
    rintro r H h H' h' ⟨j, hj, hit, n, hr⟩ E hc
    have := E I _ hit n (fun _ _ q => by cases q) (fun _ q => by cases q)
    exact ⟨j, hj, this.1, this.2, hr⟩

/-- range(n) -/
theorem IterE.range {tup : Bool} {x p e pos} {K : List V → (Hp → Prop) → Hp → Prop} (g : GlobalV C x (.con (.type "range"))) (hk : env.kindOf x = some .globalImplicit)
    (h : EvalW C k env e (fun v H₁ => ∃ n : Int, v = .int n ∧ n < 2 ^ 62 ∧ -(2 ^ 62) ≤ n ∧ K (rangeV n.toNat) (fun _ => True) H₁) R ρ H)
    (he : starEach [e] env = [(false, eval e env)] := by rfl) (hd : (x == ("__debug__" : Str)) = false := by decide) :
    IterE C k env tup (.Call (.Name x p) [e] [] pos) K R ρ H := fun A a s S P PE hPE hP => by
  have G := EvalW.global (k := k) (env := env) (ρ := ρ) (H := H) (R := R) (p := p) (Q := fun v H' => v = .con (.type "range") ∧ H' = H) g ⟨rfl, rfl⟩ hk hd
  refine wpAny_Call_NameR (wp_go (G A a s S) (fun f v H₁ s₁ hv S₁ r₁ E₁ => ?_) hPE)
  obtain ⟨rfl, rfl⟩ := hv
  have hf : f = .type "range" := by cases r₁; rfl
  subst hf
  rw [he]
  refine PySem.callWith_type rfl (Calls.evalArgs_plain (Calls.spliced_cons (wp_go (h A a s₁ (S.ext S₁ E₁)) (fun nv v H₂ s₂ hv S₂ r₂ E₂ => Calls.spliced_nil ?_) fun _ _ p => hPE _ _ (p.after E₁))))
  obtain ⟨n, rfl, hn1, hn2, hK⟩ := hv
  cases r₂ with
  | int _ t =>
    refine call_range_1 ?_
    refine wpAny_pyIter_range (IsRange.new ..) (small_one (by decide) (by decide) hn2 hn1) ?_
    have hsz : Builtin.Range.rangeSize 0 n 1 = (n.toNat : Int) := by rw [rangeSize_one]; split <;> omega
    have hk2 : ∀ b o, s₂.heap.get? b = some o → ((s₂.heap.push { cls := .type "range", data := .fields #[.int 0 s₂.toks, .int n t, .int 1 (s₂.toks + 1)] }).push { cls := .type "range_iterator", data := .fields #[rawInt 0, rawInt (Builtin.Range.rangeSize 0 n 1), rawInt 1] }).get? b = some o :=
      fun b o e => Heap.get?_push_of_some _ (Heap.get?_push_of_some _ e)
    have hI : s₂.heap.objs.size ≤ (s₂.heap.push { cls := .type "range", data := .fields #[.int 0 s₂.toks, .int n t, .int 1 (s₂.toks + 1)] }).objs.size := by rw [Heap.size_push]; omega
    refine hP _ [_] _ _ _ _ _ hK (itr_range (N := n.toNat) (S₂.freshB hI)) trivial ⟨0, Nat.zero_le _, ?_, S₂.fresh hI, rfl⟩ ?_ (S₂.grown hk2 rfl rfl) ((E₁.trans E₂).trans (Ext.grown hk2))
    · have e2 : ((n.toNat : Int) - ((0 : Nat) : Int)) = Builtin.Range.rangeSize 0 n 1 := by rw [hsz]; simp
      rw [e2]
      exact Heap.get?_push_size _ rfl
    · intro b hb
      simp at hb; subst hb
      exact (E₁.trans E₂).new_none (by omega)

/-- a list, frozen or owned -/
theorem IterE.list {tup : Bool} {e} {K : List V → (Hp → Prop) → Hp → Prop} (h : EvalW C k env e (fun v H₁ => ∃ l, lview H₁ v = some l ∧ K l (lcond v l) H₁) R ρ H) : IterE C k env tup e K R ρ H := fun A a s S P PE hPE hP => by
  refine wp_go (h A a s S) (fun x v H₁ s₁ hv S₁ r₁ E₁ => ?_) hPE
  obtain ⟨l, hl, hK⟩ := hv
  obtain ⟨ad, xs, rfl, hL, rl⟩ := lview_list hl S₁ r₁
  have hvv : v = .lst l ∨ v = .ref ad := by
    cases r₁ with
    | lst ha ho rl => cases hl; exact .inl rfl
    | ref a => exact .inr rfl
    | _ => cases hl
  have hk : ∀ b o, s₁.heap.get? b = some o → (s₁.heap.push { cls := .type "list_iterator", data := .fields #[.ref ad, .int 0 0] }).get? b = some o := fun b o e => Heap.get?_push_of_some _ e
  refine wpAny_pyIter_list hL ?_
  refine hP _ [_] _ _ _ _ _ hK (itr_list (a := ad) hvv (S₁.freshB (Nat.le_refl _))) hl ⟨0, ⟨_, Heap.get?_push_size _ rfl, rfl, rfl⟩, S₁.fresh (Nat.le_refl _), r₁.ext (Ext.grown hk), rfl, Nat.zero_le _⟩ ?_ (S₁.grown hk rfl rfl) (E₁.trans (Ext.grown hk))
  intro b hb; simp at hb; subst hb; exact E₁.new_none (Nat.le_refl _)

end Mine

set_option Elab.async false
set_option linter.unusedVariables false
namespace Mine
open PySem PyProof.Rows

variable {C : Cx} {k : Nat} {env : Env} {ρ : Rho} {H : Hp} {R : V → Hp → Prop}

def enumFrom (n : Nat) : List V → List V
  | [] => []
  | v :: r => .tup [.int (n : Nat), v] :: enumFrom (n + 1) r
def enumV (l : List V) : List V := enumFrom 0 l
theorem enumFrom_get {l : List V} : ∀ {n i : Nat}, (enumFrom n l)[i]? = (l[i]?).map fun v => V.tup [.int ((n + i : Nat) : Int), v] := by
  induction l with
  | nil => intro n i; simp [enumFrom]
  | cons v r ih =>
    intro n i
    cases i with
    | zero => simp [enumFrom]
    | succ i => simp only [enumFrom, List.getElem?_cons_succ, ih]; congr 2; funext v; congr 4; omega
theorem enumFrom_length {l : List V} : ∀ {n : Nat}, (enumFrom n l).length = l.length := by
  induction l with
  | nil => intro n; rfl
  | cons v r ih => intro n; simp [enumFrom, ih]

theorem itr_enum {v : V} {l : List V} {a e it : Addr} (hne : e ≠ it) (he0 : C.base.get? e = none) (hi0 : C.base.get? it = none) :
    ItrOK C true e [e, it] (fun r H h => ∃ (i : Nat) (old : Value), IsEnum h e it i old ∧ h.IsListIter it a i ∧ H e = none ∧ H it = none ∧ VRel h H v (.ref a) ∧ r = (enumV l).drop i ∧ i ≤ l.length) (lcond v l) where
  tmp := by
    rintro r H h ⟨i, old, e1, ⟨o, e2, c2, d2⟩, n1, n2, _⟩
    refine ⟨fun b hb => ?_, fun b hb => ?_, fun b hb => ?_⟩
    · simp at hb; rcases hb with rfl | rfl
      · exact ⟨_, _, e1, rfl⟩
      · exact ⟨o, _, e2, d2⟩
    · simp at hb; rcases hb with rfl | rfl <;> assumption
    · simp at hb; rcases hb with rfl | rfl <;> assumption
  next := by
    rintro A hu1 s u r H P E S hc ⟨i, old, he, hit, n1, n2, rv, hr, hi⟩ hP
    obtain ⟨a', xs, ea, hl, rl⟩ := lview_list hc S rv
    cases ea
    have hu : (enumV l)[i]? = some u := by
      have := congrArg List.head? hr
      simpa [List.head?_drop] using this.symm
    rw [enumV, enumFrom_get] at hu
    obtain ⟨w, hw, rfl⟩ := Option.map_eq_some_iff.mp hu
    have hlt : i < l.length := (List.getElem?_eq_some_iff.mp hw).1
    have hrest : r = (enumV l).drop (i + 1) := by
      have := congrArg List.tail hr
      simpa [List.tail_drop] using this
    obtain ⟨x, ex, rx⟩ := rl.get hw
    have T : Tmp C H [e, it] s.heap := by
      obtain ⟨o, e2, c2, d2⟩ := hit
      refine ⟨fun b hb => ?_, fun b hb => ?_, fun b hb => ?_⟩
      · simp at hb; rcases hb with rfl | rfl
        · exact ⟨_, _, he, rfl⟩
        · exact ⟨o, _, e2, d2⟩
      · simp at hb; rcases hb with rfl | rfl <;> assumption
      · simp at hb; rcases hb with rfl | rfl <;> assumption
    have heH : e < s.heap.objs.size := Heap.lt_size he
    refine wpAny_pyNext_enum_item he hit hl (by simpa using ex) hne fun h₁ heo hit₁ ht₁ hz₁ hk₁ => ?_
    have M : Moved [e, it] s { s with heap := h₁, toks := s.toks + 1 } := ⟨fun b o hb q => hk₁ b o (fun z => hb (by simp [z])) (fun z => hb (by simp [z])) q, rfl, rfl⟩
    have V1 := M.extV T
    have fr : H s.heap.objs.size = none := S.fresh (Nat.le_refl _)
    have rt : VRel h₁ H (.tup [.int ((0 + i : Nat) : Int), w]) (.ref s.heap.objs.size) := by
      rw [Nat.zero_add]
      exact .tup ⟨_, ht₁, rfl, _, rfl⟩ fr (.cons (.int _ _) (.cons (rx.extV V1) .nil))
    refine hP _ _ fun target ht P' hP' => ?_
    obtain ⟨es, n, p, rfl⟩ := ht rfl
    refine wpAny_letOwnedTupleGo_enum heo fun h₂ he₂ hs₂ => ?_
    replace hs₂ : Heap.SameBut e h₁ h₂ := hs₂
    have M2 : Moved [e, it] s { s with heap := h₂, toks := s.toks + 1 } := ⟨fun b o hb q => hs₂.extBut b o (fun z => hb (by simp [z])) (M.keep b o hb q), rfl, rfl⟩
    have V2 := M2.extV T
    refine hP' _ ?_ ⟨i + 1, x, he₂, ?_, n1, n2, rv.extV V2, hrest, hlt⟩ M2
    · rw [Nat.zero_add]
      exact .tup ⟨_, hs₂.extBut _ _ (Nat.ne_of_gt heH) ht₁, rfl, _, rfl⟩ fr (.cons (.int _ _) (.cons (rx.extV V2) .nil))
    · obtain ⟨o, q1, q2, q3⟩ := hit₁
      exact ⟨o, hs₂.extBut _ _ (Ne.symm hne) q1, q2, q3⟩
  done := by
    rintro A s H P E hh hu S hc ⟨i, old, he, hit, n1, n2, rv, hr, hi⟩ hP
    obtain ⟨a', xs, ea, hl, rl⟩ := lview_list hc S rv
    cases ea
    have hlen : xs.size = l.length := by have := rl.length; simpa using this
    have hx : xs[i]? = none := by
      have : l.length ≤ i := by
        have := congrArg List.length hr
        simp [enumV, enumFrom_length] at this; omega
      simp; omega
    refine wpAny_pyNext_enum_end hh he hit hl hx fun h' hx' => ?_
    exact hP _ ⟨fun b o hb q => hx' b o (fun z => hb (by simp [z])) q, rfl, rfl⟩
  self := by
    rintro A s r H P E ⟨i, old, he, hit, _⟩ hP
    exact wpAny_pyIter_enum he hP
  frame := by
    rintro r H h H' h' ⟨i, old, he, ⟨o, e2, c2, d2⟩, n1, n2, rv, hr, hi⟩ E hc
    have q1 := E e _ he n1 (fun _ _ q => by cases q) (fun _ q => by cases q)
    have q2 := E it o e2 n2 (fun _ _ q => by rw [d2] at q; cases q) (fun _ q => by rw [d2] at q; cases q)
    exact ⟨i, old, q1.1, ⟨o, q2.1, c2, d2⟩, q1.2, q2.2, rv.extV E.v, hr, hi⟩

/-- enumerate(xs), taken apart by a tuple of names -/
theorem IterE.enum {x p e pos} {K : List V → (Hp → Prop) → Hp → Prop} (g : GlobalV C x (.con (.type "enumerate"))) (hk : env.kindOf x = some .globalImplicit)
    (h : EvalW C k env e (fun v H₁ => ∃ l, lview H₁ v = some l ∧ K (enumV l) (lcond v l) H₁) R ρ H)
    (he : starEach [e] env = [(false, eval e env)] := by rfl) (hd : (x == ("__debug__" : Str)) = false := by decide) :
    IterE C k env true (.Call (.Name x p) [e] [] pos) K R ρ H := fun A a s S P PE hPE hP => by
  have G := EvalW.global (k := k) (env := env) (ρ := ρ) (H := H) (R := R) (p := p) (Q := fun v H' => v = .con (.type "enumerate") ∧ H' = H) g ⟨rfl, rfl⟩ hk hd
  refine wpAny_Call_NameR (wp_go (G A a s S) (fun f v H₁ s₁ hv S₁ r₁ E₁ => ?_) hPE)
  obtain ⟨rfl, rfl⟩ := hv
  have hf : f = .type "enumerate" := by cases r₁; rfl
  subst hf
  rw [he]
  refine PySem.callWith_type rfl (Calls.evalArgs_plain (Calls.spliced_cons (wp_go (h A a s₁ (S.ext S₁ E₁)) (fun y v H₂ s₂ hv S₂ r₂ E₂ => Calls.spliced_nil ?_) fun _ _ p => hPE _ _ (p.after E₁))))
  obtain ⟨l, hl, hK⟩ := hv
  obtain ⟨ad, xs, rfl, hL, rl⟩ := lview_list hl S₂ r₂
  refine call_enumerate_list hL fun h' he' hit' hz' hk' => ?_
  refine wpAny_pyIter_enum he' ?_
  have E3 : Ext H₂ s₂.heap H₂ h' := Ext.grown hk'
  refine hP _ _ _ _ _ _ _ hK (itr_enum (v := v) (l := l) (a := ad) (e := s₂.heap.objs.size + 1) (it := s₂.heap.objs.size) (Nat.succ_ne_self _) (S₂.freshB (by omega)) (S₂.freshB (Nat.le_refl _))) hl
    ⟨0, _, he', hit', S₂.fresh (by omega), S₂.fresh (Nat.le_refl _), r₂.ext E3, rfl, Nat.zero_le _⟩ ?_ (S₂.grown hk' rfl rfl) ((E₁.trans E₂).trans E3)
  intro b hb
  simp at hb
  rcases hb with rfl | rfl
  · exact (E₁.trans E₂).new_none (by omega)
  · exact (E₁.trans E₂).new_none (Nat.le_refl _)

end Mine

set_option Elab.async false
set_option linter.unusedVariables false
namespace Mine
open PySem PyProof.Rows

section
variable {prog : Program} {w : World} {A : Around} {R : Result → Shared → Prop} {s : Shared}
theorem compLoop_any {elt target iter : Expr} {ifs : List Expr} {scope : Scope} {pos : Pos} {it acc : Value} {env : Env} (I : Nat → Shared → Prop)
    (turn : ∀ n s, I n s → wpAny (model prog w) A (pyNext it) (fun r s₁ => match r with
      | none => R (.ok .next) s₁
      | some v => wpAny (model prog w) A (letOwnedTupleGo target it v) (fun _ s₁' => wpAny (model prog w) A (assign target env v) (fun _ s₂ =>
          wpAny (model prog w) A (forIn ifs true fun c r => if r = true then do let ok ← isTrue c env (eval c env); pure (ForInStep.yield ok) else pure (ForInStep.yield r)) (fun ok s₃ =>
            if ok = true then wpAny (model prog w) A (eval elt env) (fun x s₄ =>
              wpAny (model prog w) A (call (.builtin "list.append") [acc, x]) (fun _ s₅ => ∃ m, m < n ∧ I m s₅) (notedBy (model prog w) A env fun e s' => R (.error e) s') s₄) (notedBy (model prog w) A env fun e s' => R (.error e) s') s₃
            else ∃ m, m < n ∧ I m s₃) (notedBy (model prog w) A env fun e s' => R (.error e) s') s₂) (notedBy (model prog w) A env fun e s' => R (.error e) s') s₁') (notedBy (model prog w) A env fun e s' => R (.error e) s') s₁) (notedBy (model prog w) A env fun e s' => R (.error e) s') s)
    (n : Nat) (h : I n s) : codeAny (model prog w) A (.compLoop (.ListComp elt [⟨target, iter, ifs, 0⟩] scope pos) 0 it acc env) R s := by
  refine codeAny_loop rfl I (fun n s hI => ?_) n h
  show wpAny _ A ((compTurn (.ListComp elt [⟨target, iter, ifs, 0⟩] scope pos) 0 it acc env).onRaise (fun x => do noteFrame x env; theTreesLotGoes x)) _ _ s
  refine wpAny_noted ?_
  rw [compTurn_list]
  refine wpAny_bind (wpAny_standAt (wpAny_bind (wpAny_mono (turn n s hI) (fun r s₁ h₁ => ?_) fun _ _ h' => h')))
  cases r with
  | none => exact wpAny_pure h₁
  | some v =>
    refine wpAny_bind (wpAny_mono h₁ (fun _ s₁' h₁ => ?_) fun _ _ h' => h')
    refine wpAny_bind (wpAny_mono h₁ (fun _ s₂ h₂ => wpAny_bind (wpAny_mono h₂ (fun ok s₃ h₃ => ?_) fun _ _ h' => h')) fun _ _ h' => h')
    cases ok with
    | false => exact wpAny_pure ⟨rfl, h₃⟩
    | true =>
      exact wpAny_bind (wpAny_bind (wpAny_mono h₃ (fun x s₄ h₄ => wpAny_bind (wpAny_mono h₄ (fun _ s₅ h₅ => wpAny_pure (wpAny_pure ⟨rfl, h₅⟩)) fun _ _ h' => h')) fun _ _ h' => h'))
end

/-- the tests of a comprehension -/
def IfsW (C : Cx) (k : Nat) (env : Env) (ifs : List Expr) (Q : Bool → Hp → Prop) (R : V → Hp → Prop) (ρ : Rho) (H : Hp) : Prop :=
  ∀ A, Lv C k A → ∀ s, SimL C env ρ H s → wpAny C.M A (forIn ifs true fun c r => if r = true then do let ok ← isTrue c env (eval c env); pure (ForInStep.yield ok) else pure (ForInStep.yield r)) (Post C H s.heap BRel Q) (Post C H s.heap VRel R) s

variable {C : Cx} {k : Nat} {env : Env} {ρ : Rho} {H : Hp} {Q R : V → Hp → Prop} {QB : Bool → Hp → Prop}
theorem IfsW.nil (h : QB true H) : IfsW C k env [] QB R ρ H := fun A a s S => wpAny_tests_nil (Post.here h S.sim rfl rfl)
theorem IfsW.one {c} (h : TestW C k env c QB R ρ H) : IfsW C k env [c] QB R ρ H := fun A a s S => wpAny_tests_one (h A a s S)

/-- the names that a comprehension sees -/
def Rho.hide (scope : Scope) (ρ : Rho) : Rho := fun y => if scope.names.lookup y = some .local then none else ρ y
def Rho.le (ρ ρ' : Rho) : Prop := ∀ y w, ρ y = some w → ρ' y = some w
theorem SimL.weaken {ρ' s} (S : SimL C env ρ' H s) (h : Rho.le ρ ρ') : SimL C env ρ H s :=
  let ⟨m, cm, F, r⟩ := S.frm; ⟨S.sim, S.kind, S.globals, S.builtins, m, cm, F, fun x v e => r x v (h x v e)⟩

/-- the cells that a comprehension closes over -/
def closL (cells : List (Str × Addr)) : List (Str × NameKind) → List (Str × Addr) → List (Str × Addr)
  | [], acc => acc
  | (n, kd) :: r, acc => if kd == .free then closL cells r ((n, (cells.lookup n).getD 0) :: acc) else closL cells r acc
theorem closureFor_eq {scope : Scope} (h : ∀ x ∈ scope.names, x.2 = .free → (env.cells.lookup x.1).isSome = true) : closureFor scope env = pure (closL env.cells scope.names []) := by
  have key : ∀ (names : List (Str × NameKind)) (acc : List (Str × Addr)), (∀ x ∈ names, x.2 = .free → (env.cells.lookup x.1).isSome = true) →
      (forIn names acc fun (x : Str × NameKind) r => match x with | (name, kind) => if (kind == .free) = true then do let a ← cellOf env name; pure (ForInStep.yield ((name, a) :: r)) else pure (ForInStep.yield r) : Sem (List (Str × Addr))) = pure (closL env.cells names acc) := by
    intro names
    induction names with
    | nil => intro acc _; rfl
    | cons x r ih =>
      obtain ⟨n, kd⟩ := x
      intro acc hx
      rw [List.forIn_cons]
      unfold closL
      by_cases hk : (kd == NameKind.free) = true
      · obtain ⟨c, hc⟩ := Option.isSome_iff_exists.mp (hx (n, kd) (.head _) (by simpa using hk))
        simp only [hk, if_true]
        have : cellOf env n = pure c := by unfold cellOf; rw [hc]
        rw [this, pure_bind, pure_bind]
        simp only [hc, Option.getD_some]
        exact ih _ fun y hy => hx y (.tail _ hy)
      · simp only [hk, if_false, Bool.false_eq_true]
        rw [pure_bind]
        exact ih _ fun y hy => hx y (.tail _ hy)
  have := key scope.names [] h
  unfold closureFor
  simp only [bind_pure]
  exact this
theorem closL_lookup (cells : List (Str × Addr)) : ∀ (names : List (Str × NameKind)) (acc : List (Str × Addr)) (x : Str) (c : Addr), (∀ y ∈ names, y.2 = .free → (cells.lookup y.1).isSome = true) → (∀ y c', acc.lookup y = some c' → cells.lookup y = some c') →
    (closL cells names acc).lookup x = some c → cells.lookup x = some c
  | [], acc, x, c, _, ha, e => ha x c e
  | (n, kd) :: r, acc, x, c, hn, ha, e => by
    unfold closL at e
    split at e
    · rename_i hk
      obtain ⟨c', hc'⟩ := Option.isSome_iff_exists.mp (hn (n, kd) (.head _) (by simpa using hk))
      refine closL_lookup cells r _ x c (fun y hy => hn y (.tail _ hy)) (fun y c'' ey => ?_) e
      rw [List.lookup_cons] at ey
      split at ey
      · rename_i hb; cases ey; rw [beq_iff_eq.mp hb, hc']; rfl
      · exact ha y c'' ey
    · exact closL_lookup cells r _ x c (fun y hy => hn y (.tail _ hy)) ha e
theorem closL_isSome (cells : List (Str × Addr)) : ∀ (names : List (Str × NameKind)) (acc : List (Str × Addr)) (x : Str), (names.lookup x = some .free ∨ (acc.lookup x).isSome = true) → ((closL cells names acc).lookup x).isSome = true
  | [], acc, x, h => by rcases h with h | h; · cases h
                        · exact h
  | (y, kd) :: r, acc, x, h => by
    unfold closL
    rw [List.lookup_cons] at h
    split
    · rename_i hk
      refine closL_isSome cells r _ x ?_
      rw [List.lookup_cons]
      by_cases q : (x == y) = true
      · rw [q]; exact .inr rfl
      · have q' : (x == y) = false := by simpa using q
        rw [q'] at h ⊢; exact h
    · rename_i hk
      refine closL_isSome cells r _ x ?_
      by_cases q : (x == y) = true
      · rw [q] at h
        rcases h with h | h
        · simp only [Option.some.injEq] at h; rw [h] at hk; simp at hk
        · exact .inr h
      · have q' : (x == y) = false := by simpa using q
        rw [q'] at h; exact h

theorem lookup_relabel {env : Env} : ∀ {names : List (Str × NameKind)} {x : Str} {kd : NameKind}, (names.map fun (n, k) => if (k == NameKind.free && env.scope.kind == .function && env.kindOf n == some .cell) then (n, NameKind.cell) else (n, k)).lookup x = some kd →
    names.lookup x = some kd ∨ (names.lookup x = some .free ∧ kd = .cell)
  | [], _, _, h => by simp at h
  | (n, k) :: r, x, kd, h => by
    have ih := @lookup_relabel env r x kd
    rw [List.lookup_cons]
    rw [List.map_cons] at h
    dsimp only at h
    by_cases hc : (k == NameKind.free && env.scope.kind == .function && env.kindOf n == some .cell) = true
    · rw [if_pos hc, List.lookup_cons] at h
      cases hx : x == n with
      | true => simp only [hx, Option.some.injEq] at h; right; refine ⟨?_, h.symm⟩
                have : k = .free := by simp at hc; exact hc.1.1
                rw [this]
      | false => simp only [hx] at h ⊢; exact ih h
    · rw [if_neg hc, List.lookup_cons] at h
      cases hx : x == n with
      | true => simp only [hx] at h ⊢; exact .inl h
      | false => simp only [hx] at h ⊢; exact ih h

structure CompScope (env : Env) (scope : Scope) : Prop where
  kind : scope.kind = .function
  nocell : ∀ x ∈ scope.names, x.2 ≠ .cell
  names : ∀ x ∈ scope.names, x.2 = .local → scope.names.lookup x.1 = some .local
  free : ∀ x ∈ scope.names, x.2 = .free → (env.cells.lookup x.1).isSome = true
  frees : ∀ x, scope.names.lookup x = some .free → env.kindOf x = some .cell ∨ env.kindOf x = some .free

abbrev cenvOf (env : Env) (scope : Scope) (L : Addr) : Env := compEnvC scope (closL env.cells scope.names []) L env

/-- in the comprehension's frame -/
theorem comp_enter {s₃ s₄ : Shared} {scope : Scope} (cs : CompScope env scope) (S : SimL C env ρ H s₃) (hk : ∀ a o, s₃.heap.get? a = some o → s₄.heap.get? a = some o) (hg : s₄.gens = s₃.gens) (ho : s₄.os = s₃.os) {L : Addr} {m₀ : Str → Option Value}
    (hns : s₄.heap.Ns L m₀) (hL : s₃.heap.objs.size ≤ L) : SimL C (cenvOf env scope L) (Rho.hide scope ρ) H s₄ := by
  have S₄ := S.sim.grown hk hg ho
  have SL := S.ext S₄ (Ext.grown hk)
  obtain ⟨m, cm, F, r⟩ := SL.frm
  have look : ∀ x c, (closL env.cells scope.names []).lookup x = some c → env.cells.lookup x = some c := fun x c e => closL_lookup _ _ _ x c cs.free (fun y c' e => by cases e) e
  refine ⟨S₄, cs.kind, S.globals, S.builtins, m₀, cm, ⟨hns, fun n c e => F.cell n c (look n c e), S.sim.fresh hL, fun n c e => F.ownc n c (look n c e), S.sim.freshB hL, fun n c e => F.abovec n c (look n c e), fun n n' c e e' => F.apart n n' c (look n c e) (look n' c e')⟩, fun x v e => ?_⟩
  unfold Rho.hide at e
  split at e
  · cases e
  · rename_i hx
    have rx := r x v e
    unfold LocRel
    have hkind : Env.kindOf (cenvOf env scope L) x = (relabel scope env).names.lookup x := rfl
    cases q : (relabel scope env).names.lookup x with
    | none => rw [hkind, q]; trivial
    | some kd =>
      rw [hkind, q]
      rcases lookup_relabel q with q' | ⟨q', rfl⟩
      · cases kd with
        | «local» => exact absurd q' hx
        | cell => exact absurd rfl (cs.nocell (x, .cell) (mem_of_lookup q'))
        | free =>
          obtain ⟨c, hc⟩ := Option.isSome_iff_exists.mp (closL_isSome env.cells scope.names [] x (.inl q'))
          unfold LocRel at rx
          rcases cs.frees x q' with z | z <;> rw [z] at rx
          · obtain ⟨u, c', a, b, d⟩ := rx; exact ⟨u, c, hc, b, d⟩
          · obtain ⟨u, c', a, b, d⟩ := rx; exact ⟨u, c, hc, b, d⟩
        | _ => trivial
      · obtain ⟨c, hc⟩ := Option.isSome_iff_exists.mp (closL_isSome env.cells scope.names [] x (.inl q'))
        unfold LocRel at rx
        rcases cs.frees x q' with z | z <;> rw [z] at rx
        · obtain ⟨u, c', a, b, d⟩ := rx; exact ⟨u, c, hc, b, d⟩
        · obtain ⟨u, c', a, b, d⟩ := rx; exact ⟨u, c, hc, b, d⟩

end Mine

set_option Elab.async false
set_option linter.unusedVariables false
namespace Mine
open PySem PyProof.Rows

variable {C : Cx} {k : Nat} {env : Env} {ρ : Rho} {H : Hp} {Q R : V → Hp → Prop}

/-- an owned object is changed -/
theorem Sim.update {s s' : Shared} {a : Addr} {o o' : O} (S : Sim C H s) (ha : H a = some o) (hs : Heap.SameBut a s.heap s'.heap) (hl : ∃ ob, s'.heap.get? a = some ob) (hg : s'.gens = s.gens) (ho : s'.os = s.os)
    (hr : ORel C s'.heap (H.set a o') a o') : Sim C (H.set a o') s' ∧ Ext H s.heap (H.set a o') s'.heap := by
  have hne : ∀ b, H b = none → b ≠ a := fun b e q => by subst q; rw [ha] at e; cases e
  have E : Ext H s.heap (H.set a o') s'.heap := by
    refine ⟨fun b ob e n => (hs.2 b (hne b n)).trans e, fun b ob e n => ?_, fun b ob e => ?_⟩
    · unfold Hp.set; rw [if_neg (hne b n)]; exact n
    · by_cases q : b = a
      · subst q; exact hl
      · exact ⟨ob, (hs.2 b q).trans e⟩
  refine ⟨⟨fun b ob e => (hs.2 b fun q => ?_).trans (S.keep b ob e), hg.trans S.gens, ho.trans S.os, fun b o'' e => ?_, fun b e => ?_⟩, E⟩
  · subst q; rw [(S.new b (by rw [ha]; simp)).1] at e; cases e
  · unfold Hp.set at e
    split at e
    · rename_i q; subst q; cases e; exact hr
    · rename_i q
      exact (S.objs b o'' e).same E.v (hs.2 b q)
  · unfold Hp.set at e
    split at e
    · rename_i q; subst q; exact S.new b (by rw [ha]; simp)
    · exact S.new b e

theorem append_W {A : Around} {a : Addr} {l : List V} {v : V} {x : Value} {s : Shared} {E : Value → Shared → Prop} {P : Value → Shared → Prop} (S : Sim C H s) (ha : H a = some (.list l)) (hn : l.length ≤ 1000) (r : VRel s.heap H v x)
    (h : ∀ s', Sim C (H.set a (.list (l ++ [v]))) s' → Ext H s.heap (H.set a (.list (l ++ [v]))) s'.heap → P .none s') : wpAny C.M A (call (.builtin "list.append") [.ref a, x]) P E s := by
  obtain ⟨xs, hl, rl⟩ := S.objs _ _ ha
  have hz : xs.size = l.length := by have := rl.length; simpa using this
  refine wpAny_list_append_plain hl (fun h' hl' hs => ?_) (by rw [hz]; exact Nat.le_trans hn (by decide))
  have hex : ∃ ob, h'.get? a = some ob := let ⟨_, e⟩ := hl'; ⟨_, e⟩
  have hne : ∀ b, H b = none → b ≠ a := fun b e q => by subst q; rw [ha] at e; cases e
  have E0 : ExtV H s.heap (H.set a (.list (l ++ [v]))) h' := fun b ob _ _ e _ n => ⟨(hs.2 b (hne b n)).trans e, by unfold Hp.set; rw [if_neg (hne b n)]; exact n⟩
  obtain ⟨S', E'⟩ := S.update (s' := { s with heap := h' }) (o' := .list (l ++ [v])) ha hs hex rfl rfl ⟨_, hl', by simpa using (rl.extV E0).append (.cons (r.extV E0) .nil)⟩
  exact h _ S' E'

/-- names stored in the frame's own table alone -/
def AssignL (C : Cx) (k : Nat) (env : Env) (target : Expr) (v : V) (Q : Rho → Prop) (ρ : Rho) (H : Hp) : Prop :=
  ∀ A, Lv C k A → ∀ s x, SimL C env ρ H s → VRel s.heap H v x → ∀ (P : Unit → Shared → Prop) E, (∀ ρ' s', Q ρ' → SimL C env ρ' H s' → ExtF env H s.heap H s'.heap → (∀ a o, a ≠ env.locals → s.heap.get? a = some o → s'.heap.get? a = some o) → P () s') → wpAny C.M A (assign target env x) P E s
theorem AssignL.name {x p v} {Q : Rho → Prop} (hk : env.kindOf x = some .local) (h : Q (ρ.set x v)) : AssignL C k env (.Name x p) v Q ρ H := fun A a s u S r P E hP =>
  wpAny_assign_Name (store_local hk S r fun s' S' E' hk' _ => hP _ s' h S' E' hk')
inductive StL (env : Env) : List Expr → List Str → Prop
  | nil : StL env [] []
  | cons {x : Str} {p : Pos} {es : List Expr} {xs : List Str} (hx : env.kindOf x = some .local) (hr : StL env es xs) : StL env (.Name x p :: es) (x :: xs)
theorem StL.a {es xs} (h : StL env es xs) : StA env es xs := by
  induction h with
  | nil => exact .nil
  | cons hx hr ih => exact .cons (.inl hx) ih
theorem assignInOrder_L {A : Around} {E : Value → Shared → Prop} {P : Unit → Shared → Prop} {es : List Expr} {xs : List Str} (hst : StL env es xs) : ∀ (vs : List V) (us : List Value) (ρ : Rho) (s : Shared), vs.length = xs.length → SimL C env ρ H s → VRelL s.heap H vs us →
    (∀ s', SimL C env (setAll ρ xs vs) H s' → ExtF env H s.heap H s'.heap → (∀ a o, a ≠ env.locals → s.heap.get? a = some o → s'.heap.get? a = some o) → P () s') → wpAny C.M A (assignInOrder ((assignEach es env).map (·.2)) us) P E s := by
  induction hst with
  | nil =>
    intro vs us ρ s hl S r h
    cases vs with
    | nil => cases r; exact wpAny_pure (h s S (ExtF.refl _ _ _) fun _ _ _ e => e)
    | cons v t => cases hl
  | @cons x p es xs hx hr ih =>
    intro vs us ρ s hl S r h
    cases r with
    | nil => cases hl
    | @cons v u vs us rv rl =>
      show wpAny C.M A (assignInOrder (assign (.Name x p) env :: (assignEach es env).map (·.2)) (u :: us)) P E s
      unfold assignInOrder
      refine wpAny_bind (wpAny_holding (wpAny_assign_Name (store_local hx S rv fun s' S' E' hk' _ => ?_)))
      exact ih vs us (ρ.set x v) s' (by simpa using hl) S' (rl.extV (E'.w S).v) fun s'' S'' E'' hk'' => h s'' S'' (E'.trans E'') fun a o n e => hk'' a o n (hk' a o n e)
theorem AssignL.tuple {es n p xs vs} {Q : Rho → Prop} (hst : StL env es xs) (hl : vs.length = xs.length) (hd : C.hd = true) (h : Q (setAll ρ xs vs)) : AssignL C k env (.Tuple es n p) (.tup vs) Q ρ H := fun A a s u S r P E hP => by
  cases r with
  | @tup ad l ys ha ho rl =>
    obtain ⟨l1, l2⟩ := assignEach_length hst.a
    have hz : ys.size = vs.length := by have := rl.length; simpa using this
    refine wpAny_assign_Tuple (a.handled hd) ha (l1.trans (hl.symm.trans hz.symm)) l2 fun h' he => ?_
    have hk : ∀ b o, s.heap.get? b = some o → h'.get? b = some o := fun b o e => he b o (Nat.ne_of_lt (Heap.lt_size e)) e
    have S1 : Sim C H { s with heap := h' } := S.sim.grown (s' := { s with heap := h' }) hk rfl rfl
    have SL : SimL C env ρ H { s with heap := h' } := S.ext S1 (Ext.grown hk)
    exact assignInOrder_L hst vs ys.toList ρ { s with heap := h' } hl SL (rl.ext (Ext.grown hk)) fun s' S' E' hk' => hP _ s' h S' ((Ext.grown hk).toF.trans E') fun b o n e => hk' b o n (hk b o e)

def compOk (env : Env) (scope : Scope) : Bool :=
  (scope.kind == .function) && scope.names.all (fun x => x.2 != .cell && (x.2 != .local || scope.names.lookup x.1 == some .local) && (x.2 != .free || ((env.cells.lookup x.1).isSome && (env.kindOf x.1 == some .cell || env.kindOf x.1 == some .free))))
theorem CompScope.of {scope : Scope} (h : compOk env scope = true) : CompScope env scope := by
  unfold compOk at h
  simp only [Bool.and_eq_true, beq_iff_eq, List.all_eq_true, Bool.or_eq_true, bne_iff_ne, ne_eq] at h
  refine ⟨h.1, fun x hx => (h.2 x hx).1.1, fun x hx hl => ?_, fun x hx hf => ?_, fun x hx => ?_⟩
  · rcases (h.2 x hx).1.2 with q | q
    · exact absurd hl q
    · exact q
  · rcases (h.2 x hx).2 with q | q
    · exact absurd hf q
    · exact q.1
  · rcases (h.2 (x, .free) (mem_of_lookup hx)).2 with q | q
    · exact absurd rfl q
    · exact q.2

/-- the comprehension's loop; D is the list that it fills -/
theorem comp_loop {elt target iter : Expr} {ifs : List Expr} {scope : Scope} {pos : Pos} {I : Addr} {wr : List Addr} {St : List V → Hp → Heap → Prop} {cond : Hp → Prop} {tup : Bool} (IT : ItrOK C tup I wr St cond) (ht : IsTupleE tup target) (hd : C.hd = true) {A : Around} (lv : Lv C k A)
    {cenv : Env} {ρc : Rho} {D : Addr}
    (Inv : List V → List V → Hp → Prop) (hc : ∀ r acc H, Inv r acc H → cond H ∧ H D = some (.list acc) ∧ acc.length ≤ 1000)
    (step : ∀ v r acc H, Inv (v :: r) acc H → AssignL C k cenv target v (fun ρ' => Rho.le ρc ρ' ∧ IfsW C k cenv ifs (fun b H₁ => if b = true then EvalW C k cenv elt (fun u H₂ => H₂ D = some (.list acc) ∧ Inv r (acc ++ [u]) (H₂.set D (.list (acc ++ [u])))) (fun _ _ => False) ρ' H₁ else Inv r acc H₁) (fun _ _ => False) ρ' H) ρc H)
    {h₀ : Heap} {H₀ : Hp} (hn : ∀ b ∈ wr, h₀.get? b = none) (hL : h₀.get? cenv.locals = none) {PE : Result → Shared → Prop}
    (hPE : ∀ acc H s', Inv [] acc H → SimL C cenv ρc H s' → Ext H₀ h₀ H s'.heap → PE (.ok .next) s')
    (items acc : List V) (s : Shared) (S : SimL C cenv ρc H s) (E : Ext H₀ h₀ H s.heap) (st : St items H s.heap) (h0 : Inv items acc H) :
    codeAny C.M A (.compLoop (.ListComp elt [⟨target, iter, ifs, 0⟩] scope pos) 0 (.ref I) (.ref D) cenv) PE s := by
  have hu : A.units + 1 < cLine := by have := lv.units; omega
  refine compLoop_any (fun n s' => ∃ r acc H, n = r.length + 1 ∧ Inv r acc H ∧ SimL C cenv ρc H s' ∧ Ext H₀ h₀ H s'.heap ∧ St r H s'.heap) ?_ (items.length + 1) ⟨items, acc, H, rfl, h0, S, E, st⟩
  rintro n s ⟨r, acc, H, rfl, hI, S, E, st⟩
  have T := IT.tmp _ _ _ st
  cases r with
  | nil =>
    refine IT.done A s H _ _ (lv.handled hd) hu S.sim (hc _ _ _ hI).1 st fun s' M => ?_
    exact hPE acc H _ hI (S.moved T M) (E.moved M hn)
  | cons v r =>
    refine IT.next A hu s v r H _ _ S.sim (hc _ _ _ hI).1 st fun x s' hlet => ?_
    refine hlet target ht _ fun s'' rx'' st'' M'' => ?_
    have S'' := S.moved T M''
    have E'' := E.moved M'' hn
    refine step v r acc H hI A lv s'' x S'' rx'' _ _ fun ρ' s₃ hb S₃ E₃ hk₃ => ?_
    obtain ⟨hle, hb⟩ := hb
    have E₃' : Ext H₀ h₀ H s₃.heap := by
      have hb : ∀ a o, h₀.get? a = some o → a ≠ cenv.locals := fun a o e q => by rw [q, hL] at e; cases e
      exact ⟨fun a o e n => hk₃ a o (hb a o e) (E''.keep a o e n), E''.grow, fun a o e => let ⟨o', e'⟩ := E''.live a o e; ⟨o', hk₃ a o' (hb a o e) e'⟩⟩
    have st₃ : ExtW H s''.heap H s₃.heap := E₃.w S''
    refine wpAny_mono (hb A lv s₃ S₃) ?_ ?_
    · rintro b s₄ ⟨b', H₄, q, S₄, rfl, E₄⟩
      cases b'
      · simp only [Bool.false_eq_true, if_false] at q ⊢
        refine ⟨r.length + 1, by simp, r, acc, H₄, rfl, q, (S₃.ext S₄ E₄).weaken hle, E₃'.trans E₄, IT.frame _ _ _ _ _ st'' (st₃.trans E₄.w) (hc _ _ _ q).1⟩
      · simp only [if_true] at q ⊢
        refine wpAny_mono (q A lv s₄ (S₃.ext S₄ E₄)) ?_ ?_
        · rintro y s₅ ⟨u, H₅, ⟨hD, hI'⟩, S₅, r₅, E₅⟩
          have hlen : acc.length ≤ 1000 := (hc _ _ _ hI).2.2
          refine append_W S₅ hD hlen r₅ fun s₆ S₆ E₆ => ?_
          refine ⟨r.length + 1, by simp, r, acc ++ [u], _, rfl, hI', (S₃.ext S₆ (E₄.trans (E₅.trans E₆))).weaken hle, E₃'.trans (E₄.trans (E₅.trans E₆)), ?_⟩
          exact IT.frame _ _ _ _ _ st'' (st₃.trans (E₄.trans (E₅.trans E₆)).w) (hc _ _ _ hI').1
        · rintro e s₅ ⟨_, _, q, _⟩; exact q.elim
    · rintro e s₄ ⟨_, _, q, _⟩; exact q.elim

end Mine

set_option Elab.async false
set_option linter.unusedVariables false
namespace Mine
open PySem PyProof.Rows

variable {C : Cx} {k : Nat} {env : Env} {ρ : Rho} {H : Hp} {Q R : V → Hp → Prop}

/-- what a comprehension's walk wants: an invariant over the list D that is filled, what is left, what is made -/
structure CompInv (C : Cx) (k : Nat) (env : Env) (elt target : Expr) (ifs : List Expr) (scope : Scope) (ρ : Rho) (Inv : Addr → List V → List V → Hp → Prop) : Prop where
  len : ∀ D r acc H, Inv D r acc H → H D = some (.list acc) ∧ acc.length ≤ 1000
  step : ∀ L D v r acc H, Inv D (v :: r) acc H → AssignL C k (cenvOf env scope L) target v (fun ρ' => Rho.le (Rho.hide scope ρ) ρ' ∧
    IfsW C k (cenvOf env scope L) ifs (fun b H₁ => if b = true then EvalW C k (cenvOf env scope L) elt (fun u H₂ => H₂ D = some (.list acc) ∧ Inv D r (acc ++ [u]) (H₂.set D (.list (acc ++ [u])))) (fun _ _ => False) ρ' H₁
      else Inv D r acc H₁) (fun _ _ => False) ρ' H) (Rho.hide scope ρ) H

theorem comp_core {elt target iter : Expr} {ifs : List Expr} {scope : Scope} {pos p' : Pos} {use : Option (Value → Sem Unit)} {A : Around} (a : Lv C k A) (cs : CompScope env scope) (hd : C.hd = true) {tup : Bool} (ht : IsTupleE tup target)
    (FIN : Addr → List V → Hp → Prop)
    (h : IterE C k env tup iter (fun items cond H₁ => ∃ Inv, CompInv C k env elt target ifs scope ρ Inv ∧ (∀ D, H₁ D = none → Inv D items [] (H₁.set D (.list []))) ∧ (∀ D r acc H, Inv D r acc H → cond H) ∧ ∀ D acc H', Inv D [] acc H' → FIN D acc H') R ρ H)
    {s : Shared} (S : SimL C env ρ H s) {P : Value → Shared → Prop} {E : Value → Shared → Prop} (hE : ∀ e s', Post C H s.heap VRel R e s' → E e s')
    (fin : ∀ D acc H' s' L m, FIN D acc H' → SimL C env ρ H' s' → Ext H s.heap H' s'.heap → s'.heap.Ns L m → s.heap.get? L = none → H' L = none → C.base.get? L = none → compPost C.M A E use P (.ref D) L (.ok .next) s')
    (hs : ∀ x, foldedSetIterable iter env x = pure x) :
    wpAny C.M A (comprehension (.ListComp elt [⟨target, iter, ifs, 0⟩] scope pos) scope env p' (newList []) false (eval iter env) use) P E s := by
  refine wpAny_comprehension_free (cl := closL env.cells scope.names []) rfl hs (closureFor_eq cs.free) cs.kind cs.names ?_
  refine h A a s S _ _ hE ?_
  rintro I wr St items cond H₂ s₂ ⟨Inv, CI, hI0, hcond, hfin⟩ IT hcd st hn S₂ E₂
  refine newList_W S₂ .nil (Nat.zero_le _) fun D s₃ hD S₃ E₃ => ?_
  refine wpAny_newFunctionEnv cs.nocell (by intro y hy; simp at hy) (fun h₁ hns₁ hsb₁ => ?_) cs.kind
  have hk₃ : ∀ b o, s₃.heap.get? b = some o → h₁.get? b = some o := fun b o e => hsb₁.extBut b o (Nat.ne_of_lt (Heap.lt_size e)) (Heap.get?_push_of_some _ e)
  have hI1 := hI0 D hD
  have E02 := E₂.trans E₃
  have E04 : Ext H s.heap (H₂.set D (.list [])) h₁ := E02.trans (Ext.grown hk₃)
  have hL0 : s.heap.get? s₃.heap.objs.size = none := E02.new_none (Nat.le_refl _)
  have S₃L := S.ext S₃ E02
  have S₄ : SimL C (cenvOf env scope s₃.heap.objs.size) (Rho.hide scope ρ) (H₂.set D (.list [])) { s₃ with heap := h₁, toks := s₃.toks + ([] : List (Str × Value)).length } :=
    comp_enter (s₄ := { s₃ with heap := h₁, toks := s₃.toks + ([] : List (Str × Value)).length }) cs S₃L hk₃ rfl rfl hns₁ (Nat.le_refl _)
  have st₄ : St items (H₂.set D (.list [])) h₁ := IT.frame _ _ _ _ _ st (E₃.trans (Ext.grown hk₃)).w (hcond _ _ _ _ hI1)
  have loop : ∀ s₅ : Shared, s₅ = { s₃ with heap := h₁, toks := s₃.toks + ([] : List (Str × Value)).length } →
      codeAny C.M A (.compLoop (.ListComp elt [⟨target, iter, ifs, 0⟩] scope pos) 0 (.ref I) (.ref D) (cenvOf env scope s₃.heap.objs.size)) (compPost C.M A E use P (.ref D) s₃.heap.objs.size) s₅ := by
    rintro s₅ rfl
    refine comp_loop IT ht hd a (Inv D) (fun r acc H' hi => ⟨hcond _ _ _ _ hi, CI.len _ _ _ _ hi⟩) (fun v r acc H' hi => CI.step _ D v r acc H' hi) (h₀ := s.heap) (H₀ := H) hn hL0 ?_ items [] _ S₄ E04 st₄ hI1
    intro acc H' s' hi S' E'
    obtain ⟨m, cm, F, _⟩ := S'.frm
    exact fin D acc H' s' _ m (hfin _ _ _ hi) (S.ext S'.sim E') E' F.ns hL0 F.own F.above
  refine codeAny_compStart_list (loop _ rfl) (IT.self A _ items _ _ _ st₄ (loop _ rfl))

theorem EvalW.comp {elt target iter ifs scope pos} (tup : Bool) (cs : compOk env scope = true) (hd : C.hd = true) (ht : IsTupleE tup target)
    (h : IterE C k env tup iter (fun items cond H₁ => ∃ Inv, CompInv C k env elt target ifs scope ρ Inv ∧ (∀ D, H₁ D = Option.none → Inv D items [] (H₁.set D (.list []))) ∧ (∀ D r acc H, Inv D r acc H → cond H) ∧
      ∀ D acc H', Inv D [] acc H' → ∃ v H'', Fz H' (.ref D) v H'' ∧ Q v H'') R ρ H)
    (hs : ∀ x, foldedSetIterable iter env x = pure x := by intro _; rfl) :
    EvalW C k env (.ListComp elt [⟨target, iter, ifs, 0⟩] scope pos) Q R ρ H := fun A a s S => by
  rw [eval_ListComp]
  refine comp_core a (CompScope.of cs) hd ht _ h S (fun _ _ p => p) (fun D acc H' s' L m hi S' E' hns hL hHL hBL => ?_) hs
  refine ⟨m, hns, fun h' hsb => ?_⟩
  obtain ⟨v, H'', fz, q⟩ := hi
  obtain ⟨oL, eL, nL⟩ := ns_noseq hns
  have S'' : Sim C H' { s' with heap := h' } := S'.sim.touch (s' := { s' with heap := h' }) eL nL hHL hBL (fun a o n e => hsb.extBut a o n e) rfl rfl
  obtain ⟨S3, r3⟩ := fz.2 C { s' with heap := h' } (.ref D) S'' (.ref D)
  have hb : ∀ a o, s.heap.get? a = some o → a ≠ L := fun a o e q => by rw [q, hL] at e; cases e
  exact ⟨v, H'', q, S3, r3, ⟨fun a o e n => hsb.extBut a o (hb a o e) (E'.keep a o e n), fun a o e n => fz.1 a (E'.grow a o e n), fun a o e => let ⟨o', e'⟩ := E'.live a o e; ⟨o', hsb.extBut a o' (hb a o e) e'⟩⟩⟩

variable {QS : Fl → Rho → Hp → Prop} {RS : V → Rho → Hp → Prop}
theorem ExecW.assign_comp {x p' elt target iter ifs scope cpos pos} (tup : Bool) (hk : env.kindOf x = some .local) (cs : compOk env scope = true) (hd : C.hd = true) (ht : IsTupleE tup target)
    (h : IterE C k env tup iter (fun items cond H₁ => ∃ Inv, CompInv C k env elt target ifs scope ρ Inv ∧ (∀ D, H₁ D = Option.none → Inv D items [] (H₁.set D (.list []))) ∧ (∀ D r acc H, Inv D r acc H → cond H) ∧
      ∀ D acc H', Inv D [] acc H' → ∃ v H'', Fz H' (.ref D) v H'' ∧ QS .next (ρ.set x v) H'') (fun v H' => RS v ρ H') ρ H)
    (hsw : swapsWith (.ListComp elt [⟨target, iter, ifs, 0⟩] scope cpos) (some (.Name x p')) pos.line env = pure true := by rfl)
    (hs : ∀ x, foldedSetIterable iter env x = pure x := by intro _; rfl) :
    ExecW C k env (.Assign [.Name x p'] (.ListComp elt [⟨target, iter, ifs, 0⟩] scope cpos) pos) QS RS ρ H := fun A a s S => by
  have e0 : exec (.Assign [.Name x p'] (.ListComp elt [⟨target, iter, ifs, 0⟩] scope cpos) pos) env = (do
      standAt pos
      if ← swapsWith (.ListComp elt [⟨target, iter, ifs, 0⟩] scope cpos) (some (.Name x p')) pos.line env then do
        evalThenUse (.ListComp elt [⟨target, iter, ifs, 0⟩] scope cpos) env fun v => assignAll v ((assignEach [.Name x p'] env).map (·.2))
        pure .next
      else do
        let v ← eval (.ListComp elt [⟨target, iter, ifs, 0⟩] scope cpos) env
        assignStores env v (← swappedStores [.Name x p'] (.ListComp elt [⟨target, iter, ifs, 0⟩] scope cpos) env) ((assignEach [.Name x p'] env).map (·.2))) := rfl
  rw [e0, hsw]
  refine wpAny_bind (wpAny_standAt (wpAny_bind (wpAny_pure ?_)))
  simp only [if_true]
  refine wpAny_bind ?_
  rw [arm_evalThenUse_ListComp]
  refine wpAny_bind ?_
  refine comp_core a (CompScope.of cs) hd ht _ h S (fun _ _ p => p.toX S) (fun D acc H' s' L m hi S' E' hns hL hHL hBL => ?_) hs
  show wpAny C.M A (PySem.assign (.Name x p') env (.ref D)) _ _ s'
  refine wpAny_assign_Name ?_
  obtain ⟨v, H'', fz, q⟩ := hi
  obtain ⟨S3, r3⟩ := fz.2 C s' (.ref D) S'.sim (.ref D)
  have E3 : Ext H' s'.heap H'' s'.heap := ⟨fun _ _ e _ => e, fun a _ _ n => fz.1 a n, fun _ o e => ⟨o, e⟩⟩
  have SL3 := S'.ext S3 E3
  refine store_local hk SL3 r3 fun s₅ S₅ E₅ hk₅ hg₅ => ?_
  have hLne : L ≠ env.locals := fun q => by
    obtain ⟨m2, cm2, F2, _⟩ := S.frm
    obtain ⟨o2, e2, _⟩ := ns_noseq F2.ns
    rw [← q, hL] at e2; cases e2
  obtain ⟨oL, es, ep, eL, dL, rL⟩ := hns
  have hns5 : s₅.heap.Ns L m := ⟨oL, es, ep, hk₅ _ _ hLne eL, dL, rL⟩
  refine ⟨m, hns5, fun h' hsb => wpAny_pure (wpAny_pure ?_)⟩
  obtain ⟨m5, cm5, F5, r5⟩ := S₅.frm
  obtain ⟨oL5, eL5, nL5⟩ := ns_noseq hns5
  have hHL' : H'' L = Option.none := fz.1 L hHL
  have hkeep : ∀ a o, a ≠ L → s₅.heap.get? a = some o → h'.get? a = some o := fun a o n e => hsb.extBut a o n e
  have S6 : Sim C H'' { s₅ with heap := h' } := S₅.sim.touch (s' := { s₅ with heap := h' }) eL5 nL5 hHL' hBL hkeep rfl rfl
  have hcellne : ∀ n c, env.cells.lookup n = some c → c ≠ L := fun n c e q => by
    obtain ⟨m2, cm2, F2, _⟩ := S.frm
    obtain ⟨o2, e2, _⟩ := cell_noseq (F2.cell n c e)
    rw [q, hL] at e2; cases e2
  have SL6 : SimL C env (ρ.set x v) H'' { s₅ with heap := h' } := by
    refine ⟨S6, S.kind, S.globals, S.builtins, m5, cm5, ⟨?_, fun n c e => ?_, F5.own, F5.ownc, F5.above, F5.abovec, F5.apart⟩, fun y w e => (r5 y w e).extV (ExtV.but eL5 nL5 hkeep)⟩
    · exact F5.ns.sameBut hsb (Ne.symm hLne)
    · exact (F5.cell n c e).sameBut hsb (hcellne n c e)
  have hb : ∀ a o, s.heap.get? a = some o → a ≠ L := fun a o e q => by rw [q, hL] at e; cases e
  have EF : ExtF env H s.heap H'' s₅.heap := (E'.trans E3).toF.trans E₅
  refine ⟨.next, ρ.set x v, H'', q, trivial, SL6, ⟨fun a o e n n1 n2 => hkeep a o (hb a o e) (EF.keep a o e n n1 n2), EF.grow, fun a o e => let ⟨o', e'⟩ := EF.live a o e; ⟨o', hkeep a o' (hb a o e) e'⟩⟩⟩

end Mine

set_option Elab.async false
set_option linter.unusedVariables false
namespace Mine
open PySem PyProof.Rows

variable {C : Cx} {k : Nat} {env : Env} {ρ : Rho} {H : Hp} {Q R : V → Hp → Prop} {QB : Bool → Hp → Prop}

/- ints -/
theorem BinW.add {i j : Int} (h : Q (.int (i + j)) H) : BinW C k .Add (.int i) (.int j) Q R H := fun A a s x y S r1 r2 => by
  cases r1; cases r2; exact add_int (Post.here h (S.toks _) (.int _ _) rfl)
theorem BinW.sub {i j : Int} (h : Q (.int (i - j)) H) : BinW C k .Sub (.int i) (.int j) Q R H := fun A a s x y S r1 r2 => by
  cases r1; cases r2; exact sub_int (Post.here h (S.toks _) (.int _ _) rfl)
theorem BinW.mul {i j : Int} (hb : IntMulOk i j) (h : Q (.int (i * j)) H) : BinW C k .Mult (.int i) (.int j) Q R H := fun A a s x y S r1 r2 => by
  cases r1; cases r2; exact mul_int (Post.here h (S.toks _) (.int _ _) rfl) hb
theorem BinW.mod {i j : Int} (hb : 0 < j) (h : Q (.int (i % j)) H) : BinW C k .Mod (.int i) (.int j) Q R H := fun A a s x y S r1 r2 => by
  cases r1; cases r2
  refine mod_int' (by omega) (Post.here (v := .int (i % j)) h (S.toks _) ?_ rfl)
  rw [Int.fmod_eq_emod_of_nonneg _ (by omega)]; exact .int _ _
theorem BinW.floordiv {i j : Int} (hb : 0 < j) (hs : j < 1073741824) (h : Q (.int (i / j)) H) : BinW C k .FloorDiv (.int i) (.int j) Q R H := fun A a s x y S r1 r2 => by
  cases r1; cases r2
  refine floordiv_int (by omega) (Post.here (v := .int (i / j)) h (S.toks _) ?_ rfl) (Or.inl (PyProof.noPylong_small (by omega)))
  rw [Int.fdiv_eq_ediv_of_nonneg _ (by omega)]; exact .int _ _
theorem CmpW.lt {i j : Int} (h : Q (.bool (decide (i < j))) H) : CmpW C k .Lt (.int i) (.int j) Q R H := fun A a s x y S r1 r2 => by
  cases r1; cases r2; exact lt_int (Post.here h S (.bool _) rfl)
theorem CmpW.le {i j : Int} (h : Q (.bool (decide (i ≤ j))) H) : CmpW C k .LtE (.int i) (.int j) Q R H := fun A a s x y S r1 r2 => by
  cases r1; cases r2; exact le_int (Post.here h S (.bool _) rfl)
theorem CmpW.gt {i j : Int} (h : Q (.bool (decide (j < i))) H) : CmpW C k .Gt (.int i) (.int j) Q R H := fun A a s x y S r1 r2 => by
  cases r1; cases r2; exact gt_int (Post.here h S (.bool _) rfl)
theorem CmpW.eqI {i j : Int} (h : Q (.bool (i == j)) H) : CmpW C k .Eq (.int i) (.int j) Q R H := fun A a s x y S r1 r2 => by
  cases r1; cases r2; exact eq_int (Post.here h S (.bool _) rfl)
theorem CmpW.neI {i j : Int} (h : Q (.bool (i != j)) H) : CmpW C k .NotEq (.int i) (.int j) Q R H := fun A a s x y S r1 r2 => by
  cases r1; cases r2; exact ne_int (Post.here h S (.bool _) rfl)
theorem CmpW.eqS {i j : Str} (h : Q (.bool (i == j)) H) : CmpW C k .Eq (.str i) (.str j) Q R H := fun A a s x y S r1 r2 => by
  cases r1; cases r2; exact eq_str (Post.here h S (.bool _) rfl)
theorem CmpW.neS {i j : Str} (h : Q (.bool (i != j)) H) : CmpW C k .NotEq (.str i) (.str j) Q R H := fun A a s x y S r1 r2 => by
  cases r1; cases r2; exact ne_str (Post.here h S (.bool _) rfl)

def V.isNone : V → Bool
  | .none => true
  | _ => false
def V.notCon : V → Prop
  | .con _ => False
  | _ => True
theorem CmpW.isNone {v : V} (hv : v.notCon) (h : Q (.bool v.isNone) H) : CmpW C k .Is v .none Q R H := fun A a s x y S r1 r2 => by
  cases r2
  refine is_none_gen (Post.here (v := .bool v.isNone) h S ?_ rfl)
  cases r1 <;> first | exact .bool _ | exact hv.elim
theorem CmpW.isNotNone {v : V} (hv : v.notCon) (h : Q (.bool (!v.isNone)) H) : CmpW C k .IsNot v .none Q R H := fun A a s x y S r1 r2 => by
  cases r2
  refine isnot_none_gen (Post.here (v := .bool (!v.isNone)) h S ?_ rfl)
  cases r1 <;> first | exact .bool _ | exact hv.elim

theorem TruthW.bool {b : Bool} (h : QB b H) : TruthW C k (.bool b) QB R H := fun A a s x S r => by
  cases r; exact wpAny_truthy_bool (Post.here h S rfl rfl)
theorem TruthW.list {v : V} {l : List V} (hl : lview H v = some l) (hn : l.length ≤ 100000) (h : QB (!l.isEmpty) H) : TruthW C k v QB R H := fun A a s x S r => by
  obtain ⟨ad, xs, rfl, hL, rl⟩ := lview_list hl S r
  have hz : xs.size = l.length := by have := rl.length; simpa using this
  refine wpAny_truthy_list hL (by omega) (Post.here (v := !l.isEmpty) h (S.toks _) ?_ rfl)
  show (!l.isEmpty) = !xs.isEmpty
  cases l <;> cases xs with | mk ys => cases ys <;> simp_all

/- len -/
theorem CallW.len {v : V} {l : List V} (hl : lview H v = some l) (hn : l.length ≤ 100000) (h : Q (.int l.length) H) : CallW C k (.builtin "len") [v] Q R H := fun A a s xs S r => by
  cases r with
  | cons r r' =>
    cases r'
    obtain ⟨ad, ys, rfl, hL, rl⟩ := lview_list hl S r
    have hz : ys.size = l.length := by have := rl.length; simpa using this
    refine len_list hL (by omega) (Post.here h (S.toks _) ?_ rfl)
    rw [hz]; exact .int _ _
theorem CallW.lenT {l : List V} (hn : l.length ≤ 100000) (h : Q (.int l.length) H) : CallW C k (.builtin "len") [.tup l] Q R H := fun A a s xs S r => by
  cases r with
  | cons r r' =>
    cases r'
    cases r with
    | @tup ad _ ys ha ho rl =>
      have hz : ys.size = l.length := by have := rl.length; simpa using this
      refine len_tuple ha (by omega) (Post.here h (S.toks _) ?_ rfl)
      rw [hz]; exact .int _ _

/- subscripts -/
def SubW (C : Cx) (k : Nat) (value slice : Expr) (v i : V) (Q R : V → Hp → Prop) (H : Hp) : Prop :=
  ∀ A, Lv C k A → ∀ s x y, Sim C H s → VRel s.heap H v x → VRel s.heap H i y → wpAny C.M A (subscriptTail value slice x y) (Post C H s.heap VRel Q) (Post C H s.heap VRel R) s
theorem EvalW.sub {value slice p} (h : EvalW C k env value (fun v H₁ => EvalW C k env slice (fun i H₂ => SubW C k value slice v i Q R H₂) R ρ H₁) R ρ H) : EvalW C k env (.Subscript value slice p) Q R ρ H := fun A a s S =>
  Subscript_ (wp_go (h A a s S) fun x v H₁ s₁ h₁ S₁ r₁ E₁ => wp_go (h₁ A a s₁ (S.ext S₁ E₁)) (fun y w H₂ s₂ h₂ S₂ r₂ E₂ => wp_fin (E₁.trans E₂) (h₂ A a s₂ x y S₂ (r₁.ext E₂) r₂)) fun _ _ p => p.after E₁)
theorem SubW.list {value slice} {v u : V} {l : List V} {i : Int} (hl : lview H v = some l) (h0 : 0 ≤ i) (hi : i < 2 ^ 63) (hx : l[i.toNat]? = some u) (h : Q u H)
    (hs : ∀ o i, subscripted slice false o i = operate [o, i] (getItem o i) := by intros; rfl) : SubW C k value slice v (.int i) Q R H := fun A a s x y S r1 r2 => by
  obtain ⟨ad, xs, rfl, hL, rl⟩ := lview_list hl S r1
  cases r2
  obtain ⟨z, ez, rz⟩ := rl.get hx
  exact tail_any hL.typeIs slot_list_getitem.lookup (wpAny_getItem_list hL h0 hi (by simpa using ez) (Post.here h S rz rfl)) (hs _ _)
theorem SubW.tup {value slice} {u : V} {l : List V} {i : Int} (h0 : 0 ≤ i) (hi : i < 2 ^ 63) (hx : l[i.toNat]? = some u) (h : Q u H)
    (hs : ∀ o i, subscripted slice false o i = operate [o, i] (getItem o i) := by intros; rfl) : SubW C k value slice (.tup l) (.int i) Q R H := fun A a s x y S r1 r2 => by
  cases r1 with
  | @tup ad _ xs ha ho rl =>
    cases r2
    obtain ⟨z, ez, rz⟩ := rl.get hx
    have hz : i.toNat < xs.size := by have := (List.getElem?_eq_some_iff.mp ez).1; simpa using this
    refine tail_any (T := "tuple") (Heap.IsTuple.typeIs ha) slot_tuple_getitem.lookup (getItem_tuple (j := i.toNat) ha (by omega) hi ?_ (by simpa using ez) (Post.here h S rz rfl)) (hs _ _)
    unfold seqIndex?
    have : ¬ i < 0 := by omega
    simp [this, hz]; omega

/- isinstance -/
def tyOf (H : Hp) : V → Option String
  | .none => some "NoneType"
  | .bool _ => some "bool"
  | .int _ => some "int"
  | .str _ => some "str"
  | .tup _ => some "tuple"
  | .lst _ => some "list"
  | .ref a => match H a with
    | some (.list _) => some "list"
    | some (.dictI ..) => some "dict"
    | some (.dictS ..) => some "dict"
    | _ => Option.none
  | .con _ => Option.none
def isSub (T U : String) : Bool := T == U || (T == "bool" && U == "int")
theorem CallW.isi_int {v : V} {T : String} (hT : tyOf H v = some T) (h : Q (.bool (isSub T "int")) H) : CallW C k (.builtin "isinstance") [v, .con (.type "int")] Q R H := fun A a s xs S r => by
  cases r with
  | cons r r1 =>
    cases r1 with
    | cons r1 r2 =>
      cases r2; cases r1
      cases r with
      | none => exact IsiPair.NoneType_int (Post.here (v := .bool false) (by cases hT; exact h) (S.toks _) (.bool _) rfl)
      | bool b => exact IsiPair.bool_int (Post.here (v := .bool true) (by cases hT; exact h) S (.bool _) rfl)
      | int i t => exact IsiPair.int_int (Post.here (v := .bool true) (by cases hT; exact h) S (.bool _) rfl)
      | str x t => exact IsiPair.str_int (Post.here (v := .bool false) (by cases hT; exact h) (S.toks _) (.bool _) rfl)
      | tup ha ho hl => obtain ⟨o, e, c, _⟩ := ha; exact IsiPair.tuple_int e c (Post.here (v := .bool false) (by cases hT; exact h) (S.toks _) (.bool _) rfl)
      | lst ha ho hl => obtain ⟨o, e, c, _⟩ := ha; exact IsiPair.list_int e c (Post.here (v := .bool false) (by cases hT; exact h) (S.toks _) (.bool _) rfl)
      | ref ad =>
        simp only [tyOf] at hT
        split at hT
        · rename_i l e
          obtain ⟨ys, hpl, _⟩ := S.objs _ _ e
          obtain ⟨o, e', c, _⟩ := hpl.isList
          exact IsiPair.list_int e' c (Post.here (v := .bool false) (by cases hT; exact h) (S.toks _) (.bool _) rfl)
        · rename_i m n e
          obtain ⟨f, ⟨o, es, ep, e', hx, _⟩, _⟩ := S.objs _ _ e
          exact IsiPair.dict_int e' hx.1 (Post.here (v := .bool false) (by cases hT; exact h) (S.toks _) (.bool _) rfl)
        · rename_i m n e
          obtain ⟨f, ⟨o, es, ep, e', hx, _⟩, _⟩ := S.objs _ _ e
          exact IsiPair.dict_int e' hx.1 (Post.here (v := .bool false) (by cases hT; exact h) (S.toks _) (.bool _) rfl)
        · cases hT
      | con v => cases hT
theorem CallW.isi_bool {v : V} {T : String} (hT : tyOf H v = some T) (h : Q (.bool (isSub T "bool")) H) : CallW C k (.builtin "isinstance") [v, .con (.type "bool")] Q R H := fun A a s xs S r => by
  cases r with
  | cons r r1 =>
    cases r1 with
    | cons r1 r2 =>
      cases r2; cases r1
      cases r with
      | none => exact IsiPair.NoneType_bool (Post.here (v := .bool false) (by cases hT; exact h) (S.toks _) (.bool _) rfl)
      | bool b => exact IsiPair.bool_bool (Post.here (v := .bool true) (by cases hT; exact h) S (.bool _) rfl)
      | int i t => exact IsiPair.int_bool (Post.here (v := .bool false) (by cases hT; exact h) (S.toks _) (.bool _) rfl)
      | str x t => exact IsiPair.str_bool (Post.here (v := .bool false) (by cases hT; exact h) (S.toks _) (.bool _) rfl)
      | tup ha ho hl => obtain ⟨o, e, c, _⟩ := ha; exact IsiPair.tuple_bool e c (Post.here (v := .bool false) (by cases hT; exact h) (S.toks _) (.bool _) rfl)
      | lst ha ho hl => obtain ⟨o, e, c, _⟩ := ha; exact IsiPair.list_bool e c (Post.here (v := .bool false) (by cases hT; exact h) (S.toks _) (.bool _) rfl)
      | ref ad =>
        simp only [tyOf] at hT
        split at hT
        · rename_i l e
          obtain ⟨ys, hpl, _⟩ := S.objs _ _ e
          obtain ⟨o, e', c, _⟩ := hpl.isList
          exact IsiPair.list_bool e' c (Post.here (v := .bool false) (by cases hT; exact h) (S.toks _) (.bool _) rfl)
        · rename_i m n e
          obtain ⟨f, ⟨o, es, ep, e', hx, _⟩, _⟩ := S.objs _ _ e
          exact IsiPair.dict_bool e' hx.1 (Post.here (v := .bool false) (by cases hT; exact h) (S.toks _) (.bool _) rfl)
        · rename_i m n e
          obtain ⟨f, ⟨o, es, ep, e', hx, _⟩, _⟩ := S.objs _ _ e
          exact IsiPair.dict_bool e' hx.1 (Post.here (v := .bool false) (by cases hT; exact h) (S.toks _) (.bool _) rfl)
        · cases hT
      | con v => cases hT
theorem CallW.isi_str {v : V} {T : String} (hT : tyOf H v = some T) (h : Q (.bool (isSub T "str")) H) : CallW C k (.builtin "isinstance") [v, .con (.type "str")] Q R H := fun A a s xs S r => by
  cases r with
  | cons r r1 =>
    cases r1 with
    | cons r1 r2 =>
      cases r2; cases r1
      cases r with
      | none => exact IsiPair.NoneType_str (Post.here (v := .bool false) (by cases hT; exact h) (S.toks _) (.bool _) rfl)
      | bool b => exact IsiPair.bool_str (Post.here (v := .bool false) (by cases hT; exact h) (S.toks _) (.bool _) rfl)
      | int i t => exact IsiPair.int_str (Post.here (v := .bool false) (by cases hT; exact h) (S.toks _) (.bool _) rfl)
      | str x t => exact IsiPair.str_str (Post.here (v := .bool true) (by cases hT; exact h) S (.bool _) rfl)
      | tup ha ho hl => obtain ⟨o, e, c, _⟩ := ha; exact IsiPair.tuple_str e c (Post.here (v := .bool false) (by cases hT; exact h) (S.toks _) (.bool _) rfl)
      | lst ha ho hl => obtain ⟨o, e, c, _⟩ := ha; exact IsiPair.list_str e c (Post.here (v := .bool false) (by cases hT; exact h) (S.toks _) (.bool _) rfl)
      | ref ad =>
        simp only [tyOf] at hT
        split at hT
        · rename_i l e
          obtain ⟨ys, hpl, _⟩ := S.objs _ _ e
          obtain ⟨o, e', c, _⟩ := hpl.isList
          exact IsiPair.list_str e' c (Post.here (v := .bool false) (by cases hT; exact h) (S.toks _) (.bool _) rfl)
        · rename_i m n e
          obtain ⟨f, ⟨o, es, ep, e', hx, _⟩, _⟩ := S.objs _ _ e
          exact IsiPair.dict_str e' hx.1 (Post.here (v := .bool false) (by cases hT; exact h) (S.toks _) (.bool _) rfl)
        · rename_i m n e
          obtain ⟨f, ⟨o, es, ep, e', hx, _⟩, _⟩ := S.objs _ _ e
          exact IsiPair.dict_str e' hx.1 (Post.here (v := .bool false) (by cases hT; exact h) (S.toks _) (.bool _) rfl)
        · cases hT
      | con v => cases hT
theorem CallW.isi_list {v : V} {T : String} (hT : tyOf H v = some T) (h : Q (.bool (isSub T "list")) H) : CallW C k (.builtin "isinstance") [v, .con (.type "list")] Q R H := fun A a s xs S r => by
  cases r with
  | cons r r1 =>
    cases r1 with
    | cons r1 r2 =>
      cases r2; cases r1
      cases r with
      | none => exact IsiPair.NoneType_list (Post.here (v := .bool false) (by cases hT; exact h) (S.toks _) (.bool _) rfl)
      | bool b => exact IsiPair.bool_list (Post.here (v := .bool false) (by cases hT; exact h) (S.toks _) (.bool _) rfl)
      | int i t => exact IsiPair.int_list (Post.here (v := .bool false) (by cases hT; exact h) (S.toks _) (.bool _) rfl)
      | str x t => exact IsiPair.str_list (Post.here (v := .bool false) (by cases hT; exact h) (S.toks _) (.bool _) rfl)
      | tup ha ho hl => obtain ⟨o, e, c, _⟩ := ha; exact IsiPair.tuple_list e c (Post.here (v := .bool false) (by cases hT; exact h) (S.toks _) (.bool _) rfl)
      | lst ha ho hl => obtain ⟨o, e, c, _⟩ := ha; exact IsiPair.list_list e c (Post.here (v := .bool true) (by cases hT; exact h) S (.bool _) rfl)
      | ref ad =>
        simp only [tyOf] at hT
        split at hT
        · rename_i l e
          obtain ⟨ys, hpl, _⟩ := S.objs _ _ e
          obtain ⟨o, e', c, _⟩ := hpl.isList
          exact IsiPair.list_list e' c (Post.here (v := .bool true) (by cases hT; exact h) S (.bool _) rfl)
        · rename_i m n e
          obtain ⟨f, ⟨o, es, ep, e', hx, _⟩, _⟩ := S.objs _ _ e
          exact IsiPair.dict_list e' hx.1 (Post.here (v := .bool false) (by cases hT; exact h) (S.toks _) (.bool _) rfl)
        · rename_i m n e
          obtain ⟨f, ⟨o, es, ep, e', hx, _⟩, _⟩ := S.objs _ _ e
          exact IsiPair.dict_list e' hx.1 (Post.here (v := .bool false) (by cases hT; exact h) (S.toks _) (.bool _) rfl)
        · cases hT
      | con v => cases hT
theorem CallW.isi_tuple {v : V} {T : String} (hT : tyOf H v = some T) (h : Q (.bool (isSub T "tuple")) H) : CallW C k (.builtin "isinstance") [v, .con (.type "tuple")] Q R H := fun A a s xs S r => by
  cases r with
  | cons r r1 =>
    cases r1 with
    | cons r1 r2 =>
      cases r2; cases r1
      cases r with
      | none => exact IsiPair.NoneType_tuple (Post.here (v := .bool false) (by cases hT; exact h) (S.toks _) (.bool _) rfl)
      | bool b => exact IsiPair.bool_tuple (Post.here (v := .bool false) (by cases hT; exact h) (S.toks _) (.bool _) rfl)
      | int i t => exact IsiPair.int_tuple (Post.here (v := .bool false) (by cases hT; exact h) (S.toks _) (.bool _) rfl)
      | str x t => exact IsiPair.str_tuple (Post.here (v := .bool false) (by cases hT; exact h) (S.toks _) (.bool _) rfl)
      | tup ha ho hl => obtain ⟨o, e, c, _⟩ := ha; exact IsiPair.tuple_tuple e c (Post.here (v := .bool true) (by cases hT; exact h) S (.bool _) rfl)
      | lst ha ho hl => obtain ⟨o, e, c, _⟩ := ha; exact IsiPair.list_tuple e c (Post.here (v := .bool false) (by cases hT; exact h) (S.toks _) (.bool _) rfl)
      | ref ad =>
        simp only [tyOf] at hT
        split at hT
        · rename_i l e
          obtain ⟨ys, hpl, _⟩ := S.objs _ _ e
          obtain ⟨o, e', c, _⟩ := hpl.isList
          exact IsiPair.list_tuple e' c (Post.here (v := .bool false) (by cases hT; exact h) (S.toks _) (.bool _) rfl)
        · rename_i m n e
          obtain ⟨f, ⟨o, es, ep, e', hx, _⟩, _⟩ := S.objs _ _ e
          exact IsiPair.dict_tuple e' hx.1 (Post.here (v := .bool false) (by cases hT; exact h) (S.toks _) (.bool _) rfl)
        · rename_i m n e
          obtain ⟨f, ⟨o, es, ep, e', hx, _⟩, _⟩ := S.objs _ _ e
          exact IsiPair.dict_tuple e' hx.1 (Post.here (v := .bool false) (by cases hT; exact h) (S.toks _) (.bool _) rfl)
        · cases hT
      | con v => cases hT

end Mine

set_option Elab.async false
set_option linter.unusedVariables false
namespace Mine
open PySem PyProof.Rows

variable {C : Cx} {k : Nat} {env : Env} {ρ : Rho} {H : Hp} {Q R : V → Hp → Prop} {QB : Bool → Hp → Prop}

mutual
def V.dat : V → PyData
  | .none => .none
  | .bool b => .bool b
  | .int i => .int i
  | .str s => .str s
  | .tup l => .tuple (datL l)
  | .lst l => .list (datL l)
  | .ref _ => .none
  | .con _ => .none
def datL : List V → List PyData
  | [] => []
  | v :: r => v.dat :: datL r
end
mutual
def V.pure : V → Bool
  | .none => true
  | .bool _ => true
  | .int _ => true
  | .str _ => true
  | .tup l => pureL l
  | .lst l => pureL l
  | .ref _ => false
  | .con _ => false
def pureL : List V → Bool
  | [] => true
  | v :: r => v.pure && pureL r
end
mutual
theorem VRel.reads {h : Heap} {H : Hp} : ∀ {v : V} {x : Value}, VRel h H v x → v.pure = true → ∃ as, Reads h x v.dat as
  | _, _, .none, _ => ⟨_, .none⟩
  | _, _, .bool b, _ => ⟨_, .bool b⟩
  | _, _, .int i t, _ => ⟨_, .int i t⟩
  | _, _, .str s t, _ => ⟨_, .str s t⟩
  | _, _, .tup ha ho hl, hp => by
    obtain ⟨o, e, c, n, d⟩ := ha
    obtain ⟨as, r⟩ := VRelL.reads hl (by simpa only [V.pure] using hp)
    exact ⟨as, by simpa only [V.dat] using .tuple e c d r⟩
  | _, _, .lst ha ho hl, hp => by
    obtain ⟨o, e, c, n, d⟩ := ha
    obtain ⟨as, r⟩ := VRelL.reads hl (by simpa only [V.pure] using hp)
    exact ⟨_, by simpa only [V.dat] using .list e c d r⟩
  | _, _, .ref _, hp => by simp [V.pure] at hp
  | _, _, .con _, hp => by simp [V.pure] at hp
theorem VRelL.reads {h : Heap} {H : Hp} : ∀ {v : List V} {x : List Value}, VRelL h H v x → pureL v = true → ∃ as, ReadsAll h x (datL v) as
  | _, _, .nil, _ => ⟨_, by simpa only [datL] using .nil⟩
  | _, _, .cons hv hl, hp => by
    simp only [pureL, Bool.and_eq_true] at hp
    obtain ⟨as, r⟩ := VRel.reads hv hp.1
    obtain ⟨bs, r'⟩ := VRelL.reads hl hp.2
    exact ⟨_, by simpa only [datL] using .cons r r'⟩
end
/-- an owned list, seen as it is now -/
def see (H : Hp) : V → V
  | .ref a => match H a with
    | some (.list l) => .lst l
    | _ => .ref a
  | v => v
theorem see_reads {s : Shared} {v : V} {x : Value} (S : Sim C H s) (r : VRel s.heap H v x) (hp : (see H v).pure = true) : ∃ as, Reads s.heap x (see H v).dat as := by
  cases r with
  | ref a =>
    simp only [see] at hp ⊢
    split at hp
    · rename_i l e
      obtain ⟨xs, hpl, rl⟩ := S.objs _ _ e
      obtain ⟨o, e', c, n, d⟩ := hpl.isList
      obtain ⟨as, r⟩ := VRelL.reads rl (by simpa only [V.pure] using hp)
      exact ⟨_, by simpa only [V.dat] using .list e' c d r⟩
    · simp [V.pure] at hp
  | none => exact VRel.reads (H := H) .none hp
  | bool b => exact VRel.reads (H := H) (.bool b) hp
  | int i t => exact VRel.reads (H := H) (.int i t) hp
  | str i t => exact VRel.reads (H := H) (.str i t) hp
  | tup ha ho hl => exact VRel.reads (.tup ha ho hl) hp
  | lst ha ho hl => exact VRel.reads (.lst ha ho hl) hp
  | con v => simp [see, V.pure] at hp

def okD (d : PyData) : Bool := SeqAt.shaped d
theorem CmpW.eq {v w : V} (hv : (see H v).pure = true) (hw : (see H w).pure = true) (sv : okD (see H v).dat = true) (sw : okD (see H w).dat = true) (h : Q (.bool (PyData.eqv (see H v).dat (see H w).dat)) H) : CmpW C k .Eq v w Q R H := fun A a s x y S r1 r2 => by
  obtain ⟨as, ra⟩ := see_reads S r1 hv
  obtain ⟨bs, rb⟩ := see_reads S r2 hw
  exact eq_dataH ra rb sv sw (by have := a.units; omega) (Post.here h S (.bool _) rfl)
theorem CmpW.ne {v w : V} (hv : (see H v).pure = true) (hw : (see H w).pure = true) (sv : okD (see H v).dat = true) (sw : okD (see H w).dat = true) (h : Q (.bool (!PyData.eqv (see H v).dat (see H w).dat)) H) : CmpW C k .NotEq v w Q R H := fun A a s x y S r1 r2 => by
  obtain ⟨as, ra⟩ := see_reads S r1 hv
  obtain ⟨bs, rb⟩ := see_reads S r2 hw
  exact ne_dataH ra rb sv sw (by have := a.units; omega) (Post.here h S (.bool _) rfl)

/- in: a list or tuple -/
theorem CmpW.inList {v w : V} {l : List V} (hw : lview H w = some l) (pl : pureL l = true) (hv : (see H v).pure = true) (sl : okD (.list (datL l)) = true) (sv : okD (see H v).dat = true) (hm : ∀ y ∈ datL l, SeqAt.noMix y (see H v).dat = true)
    (h : Q (.bool (decide (PySem.Spec.countIn (see H v).dat (datL l) ≠ 0))) H) : CmpW C k .In v w Q R H := fun A a s x y S r1 r2 => by
  obtain ⟨as, ra⟩ := see_reads S r1 hv
  obtain ⟨ad, xs, rfl, ⟨o, e, c, n, d⟩, rl⟩ := lview_list hw S r2
  obtain ⟨bs, rb⟩ := VRelL.reads rl pl
  exact in_list_dataH (.list e c d rb) ra sl sv (by have := a.units; omega) hm (Post.here h S (.bool _) rfl)
theorem CmpW.notInList {v w : V} {l : List V} (hw : lview H w = some l) (pl : pureL l = true) (hv : (see H v).pure = true) (sl : okD (.list (datL l)) = true) (sv : okD (see H v).dat = true) (hm : ∀ y ∈ datL l, SeqAt.noMix y (see H v).dat = true)
    (h : Q (.bool (!decide (PySem.Spec.countIn (see H v).dat (datL l) ≠ 0))) H) : CmpW C k .NotIn v w Q R H := fun A a s x y S r1 r2 => by
  obtain ⟨as, ra⟩ := see_reads S r1 hv
  obtain ⟨ad, xs, rfl, ⟨o, e, c, n, d⟩, rl⟩ := lview_list hw S r2
  obtain ⟨bs, rb⟩ := VRelL.reads rl pl
  exact notIn_list_dataH (.list e c d rb) ra sl sv (by have := a.units; omega) hm (Post.here h S (.bool _) rfl)

/- dicts with int keys -/
theorem Sim.noSys {s : Shared} (S : Sim C H s) {a : Addr} {o : O} (ha : H a = some o) : (a == sysModules) = false := by
  have := (S.new a (by rw [ha]; simp)).2
  simpa using this
theorem CmpW.inI {a : Addr} {m : Int → Option V} {n : Nat} {i : Int} (ha : H a = some (.dictI m n)) (h : Q (.bool (m i).isSome) H) : CmpW C k .In (.int i) (.ref a) Q R H := fun A lv s x y S r1 r2 => by
  cases r1; cases r2
  obtain ⟨f, hm, hle, hr⟩ := S.objs _ _ ha
  refine wpAny_in_of (intKind_is _ _ _ _) (S.noSys ha) hm.mapOf (Post.here (v := .bool (m i).isSome) h (S.toks _) ?_ rfl)
  have := hr i
  cases e1 : m i <;> cases e2 : valueAt f i <;> rw [e1, e2] at this <;> first | exact this.elim | exact .bool _

end Mine

set_option Elab.async false
set_option linter.unusedVariables false
namespace Mine
open PySem PySem.W PyProof.Rows

variable {C : Cx} {k : Nat} {K : Frag}

/-- a def of the text, as the written part of the heap has it -/
theorem FnOK.ofK {a : Addr} {name qual : Str} {params : Arguments} {body : List Stmt} {scope : Scope} {dV kV doc pm cdv ct oc : Value} {an od : Option Addr} {osl : Array (Option Value)} {S : SpecT} (names : List Str)
    (X : K.In C.base) (lim : C.base.NoLimit) (ho : K.lookup a = some ⟨oc, od, .func (fnOf name qual params body scope dV kV doc pm an cdv ct), osl⟩) (hcd : codeIn K cdv qual = true)
    (hbind : ∀ vals : List Value, vals.length = names.length → bindArgs (fnOf name qual params body scope dV kV doc pm an cdv ct) ⟨vals, []⟩ = pure (names.zip vals))
    (hk : (names.all fun n => scope.names.lookup n == some .local || scope.names.lookup n == some .cell) = true) (hfl : (!scope.isCoroutine && !scope.isGenerator && scope.kind == .function) = true)
    (h : ∀ args Q R H, S args Q R H → args.length = names.length ∧ ∀ L, ExecsW C k (envOfC qual scope L a cdv) body (RetQ Q) (fun _ _ _ => False) (bindRho (fun _ => none) names args) H) :
    FnOK C (k + 1) (.ref a) S := by
  simp only [Bool.and_eq_true, Bool.not_eq_true', beq_iff_eq] at hfl
  have D : FnDef C a (fnOf name qual params body scope dV kV doc pm an cdv ct) names body :=
    ⟨⟨_, X _ _ ho, rfl⟩, lim, codeRec_of X hcd, rfl, rfl, rfl, rfl, hfl.1.1, hfl.1.2, hfl.2, hbind, fun n hn => by
      have := List.all_eq_true.mp hk n hn
      simpa using this⟩
  exact FnOK.of_def D h
end Mine

set_option Elab.async false
set_option linter.unusedVariables false
namespace Mine
open PySem PySem.W PyProof.Rows

structure PCx (C : Cx) (K : Frag) : Prop where
  X : K.In C.base
  lim : C.base.NoLimit
  ns : ∃ mg mb, C.base.Ns mainGlobals mg ∧ C.base.Ns builtinsNs mb ∧ ∀ x : Str, x ≠ "__name__" → mb x = bootBuiltins x
  hd : C.hd = true
variable {C : Cx} {K : Frag}
theorem PCx.glob (P : PCx C K) {x : Str} {v : Value} (e : nsIn K mainGlobals x = some (some v)) : GlobalV C x (.con v) :=
  let ⟨mg, mb, g, b, h⟩ := P.ns; ⟨v, .inl ⟨mg, g, mg_of P.X g e⟩, fun _ _ => .con v⟩
theorem PCx.globInt (P : PCx C K) {x : Str} {i : Int} {t : Tok} (e : nsIn K mainGlobals x = some (some (.int i t))) : GlobalV C x (.int i) :=
  let ⟨mg, mb, g, b, h⟩ := P.ns; ⟨_, .inl ⟨mg, g, mg_of P.X g e⟩, fun _ _ => .int i t⟩
theorem PCx.blt (P : PCx C K) {x : Str} {v : Value} (e : nsIn K mainGlobals x = some none) (hv : bootBuiltins x = some v) (hn : x ≠ "__name__" := by decide) : GlobalV C x (.con v) :=
  let ⟨mg, mb, g, b, h⟩ := P.ns; ⟨v, .inr ⟨mg, mb, g, mg_none_of P.X g e, b, (h x hn).trans hv⟩, fun _ _ => .con v⟩
end Mine

set_option Elab.async false
set_option linter.unusedVariables false
namespace Mine
open PySem PySem.W PyProof.Rows
def stAt (p : Program) (i : Nat) : Option Stmt := p.main.body[i]?
def stIn (p : Program) (i j : Nat) : Option Stmt := match p.main.body[i]? with
  | some (.ClassDef _ _ _ b ..) => b[j]?
  | _ => none
def fnTri : Option Stmt → Arguments × List Stmt × Scope
  | some (.FunctionDef _ a b _ _ _ sc ..) => (a, b, sc)
  | _ => (default, [], default)
def fobj (s : Option Stmt) (name qual : Str) (dV kV doc pm : Value) (an : Option Addr) (cdv ct : Value) : Obj :=
  ⟨.type "function", none, .func (fnOf name qual (fnTri s).1 (fnTri s).2.1 (fnTri s).2.2 dV kV doc pm an cdv ct), #[]⟩
variable {C : Cx} {K : Frag}
theorem FnOK.ofS {k : Nat} {a : Addr} {s : Option Stmt} {name qual : Str} {params : Arguments} {body : List Stmt} {scope : Scope} {dV kV doc pm cdv ct : Value} {an : Option Addr} {S : SpecT} (names : List Str)
    (X : K.In C.base) (lim : C.base.NoLimit) (ho : K.lookup a = some (fobj s name qual dV kV doc pm an cdv ct)) (hs : fnTri s = (params, body, scope)) (hcd : codeIn K cdv qual = true)
    (hbind : ∀ vals : List Value, vals.length = names.length → bindArgs (fnOf name qual params body scope dV kV doc pm an cdv ct) ⟨vals, []⟩ = pure (names.zip vals))
    (hk : (names.all fun n => scope.names.lookup n == some .local || scope.names.lookup n == some .cell) = true) (hfl : (!scope.isCoroutine && !scope.isGenerator && scope.kind == .function) = true)
    (h : ∀ args Q R H, S args Q R H → args.length = names.length ∧ ∀ L, ExecsW C k (envOfC qual scope L a cdv) body (RetQ Q) (fun _ _ _ => False) (bindRho (fun _ => none) names args) H) :
    FnOK C (k + 1) (.ref a) S := by
  unfold fobj at ho
  rw [hs] at ho
  exact FnOK.ofK names X lim ho hcd hbind hk hfl h
theorem Plainly.ofS {a : Addr} {s : Option Stmt} {name qual : Str} {dV kV doc pm cdv ct : Value} {an : Option Addr}
    (X : K.In C.base) (ho : K.lookup a = some (fobj s name qual dV kV doc pm an cdv ct)) : Plainly C (.ref a) := Plainly.fn (X _ _ ho) rfl
end Mine

set_option Elab.async false
set_option linter.unusedVariables false
namespace Mine
open PySem PySem.W PyProof.Rows

variable {C : Cx} {k : Nat} {env : Env} {ρ : Rho} {H : Hp} {Q R : V → Hp → Prop} {QB : Bool → Hp → Prop} {QS : Fl → Rho → Hp → Prop} {RS : V → Rho → Hp → Prop}

theorem ExecW.expr {e p} (h : EvalW C k env e (fun _ H' => QS .next ρ H') (fun v H' => RS v ρ H') ρ H) (hi : interactive env = false := by rfl) (hs : swapsWith e Option.none p.line env = pure false := by rfl) :
    ExecW C k env (.Expr e p) QS RS ρ H := fun A a s S =>
  wpAny_Expr_any (wpAny_mono (h A a s S) (fun x s' ⟨v, H', q, S', r, E⟩ => ⟨.next, ρ, H', q, trivial, S.ext S' E, E.toF⟩) fun _ _ p => p.toX S) hi hs

/- chains of two comparisons -/
theorem EvalW.compare2 {l o₁ o₂ r₁ r₂ p} (h : EvalW C k env l (fun v H₁ => EvalW C k env r₁ (fun w H₂ => CmpW C k o₁ v w (fun c H₃ => TruthW C k c (fun b H₄ => if b = true then EvalW C k env r₂ (fun z H₅ => CmpW C k o₂ w z Q R H₅) R ρ H₄ else Q c H₄) R H₃) R H₂) R ρ H₁) R ρ H)
    (hm : lastMarks [o₁, o₂] [r₁, r₂] = false := by with_unfolding_all rfl) : EvalW C k env (.Compare l [o₁, o₂] [r₁, r₂] p) Q R ρ H := fun A a s S => by
  refine Compare_chain (wp_go (h A a s S) fun x v H₁ s₁ h₁ S₁ r₁ E₁ => ?_) hm
  unfold compareChain
  refine wpAny_bind (wpAny_holding (wp_go (h₁ A a s₁ (S.ext S₁ E₁)) (fun y w H₂ s₂ h₂ S₂ r₂ E₂ => wpAny_bind (wpAny_standAt (wpAny_bind (wpAny_holding ?_)))) fun _ _ p => p.after E₁))
  refine wp_go (h₂ A a s₂ x y S₂ (r₁.ext E₂) r₂) (fun z c H₃ s₃ h₃ S₃ r₃ E₃ => ?_) fun _ _ p => p.after (E₁.trans E₂)
  refine wpAny_bind (fun Γ p hΓ => ?_)
  rw [Sem.wp_release]
  show wpAny C.M A _ _ _ s₃
  refine wpAny_bind (wpAny_holding (wp_go (h₃ A a s₃ z S₃ r₃) (fun b b' H₄ s₄ h₄ S₄ e₄ E₄ => ?_) fun _ _ p => p.after ((E₁.trans E₂).trans E₃)))
  have e' : b' = b := e₄
  subst e'
  have E' := ((E₁.trans E₂).trans E₃).trans E₄
  cases b'
  · simp only [Bool.false_eq_true, if_false] at h₄ ⊢
    exact wpAny_pure ⟨c, H₄, h₄, S₄, r₃.ext E₄, E'⟩
  · simp only [if_true] at h₄ ⊢
    show wpAny C.M A (compareChain _ y [o₂] [eval _ env]) _ _ s₄
    unfold compareChain
    refine wpAny_bind (wpAny_holding (wp_go (h₄ A a s₄ (S.ext S₄ E')) (fun t tv H₅ s₅ h₅ S₅ r₅ E₅ => wpAny_bind (wpAny_standAt fun Γ p hΓ => ?_)) fun _ _ p => p.after E'))
    rw [Sem.wp_operate]
    exact wp_fin (E'.trans E₅) (h₅ A a s₅ y t S₅ (r₂.ext (E₃.trans (E₄.trans E₅))) r₅) Γ p hΓ

theorem TestW.compare2 {l o₁ o₂ r₁ r₂ p} (h : EvalW C k env l (fun v H₁ => EvalW C k env r₁ (fun w H₂ => CmpW C k o₁ v w (fun c H₃ => TruthW C k c (fun b H₄ => if b = true then EvalW C k env r₂ (fun z H₅ => CmpW C k o₂ w z (fun c' H₆ => TruthW C k c' QB R H₆) R H₅) R ρ H₄ else QB false H₄) R H₃) R H₂) R ρ H₁) R ρ H)
    (hm : lastMarks [o₁, o₂] [r₁, r₂] = false := by with_unfolding_all rfl) : TestW C k env (.Compare l [o₁, o₂] [r₁, r₂] p) QB R ρ H := fun A a s S => by
  refine isTrue_chain (wp_go (h A a s S) fun x v H₁ s₁ h₁ S₁ r₁ E₁ => ?_) hm
  unfold testChain
  refine wpAny_bind (wpAny_holding (wp_go (h₁ A a s₁ (S.ext S₁ E₁)) (fun y w H₂ s₂ h₂ S₂ r₂ E₂ => wpAny_bind (wpAny_standAt (wpAny_bind (wpAny_holding ?_)))) fun _ _ p => p.after E₁))
  refine wp_go (h₂ A a s₂ x y S₂ (r₁.ext E₂) r₂) (fun z c H₃ s₃ h₃ S₃ r₃ E₃ => ?_) fun _ _ p => p.after (E₁.trans E₂)
  refine wpAny_bind (fun Γ p hΓ => ?_)
  rw [Sem.wp_release]
  show wpAny C.M A _ _ _ s₃
  refine wpAny_bind (wpAny_holding (wp_go (h₃ A a s₃ z S₃ r₃) (fun b b' H₄ s₄ h₄ S₄ e₄ E₄ => ?_) fun _ _ p => p.after ((E₁.trans E₂).trans E₃)))
  have e' : b' = b := e₄
  subst e'
  have E' := ((E₁.trans E₂).trans E₃).trans E₄
  cases b'
  · simp only [Bool.false_eq_true, if_false] at h₄ ⊢
    exact wpAny_pure ⟨false, H₄, h₄, S₄, rfl, E'⟩
  · simp only [if_true] at h₄ ⊢
    show wpAny C.M A (testChain _ y [o₂] [eval _ env]) _ _ s₄
    unfold testChain
    refine wpAny_bind (wpAny_holding (wp_go (h₄ A a s₄ (S.ext S₄ E')) (fun t tv H₅ s₅ h₅ S₅ r₅ E₅ => wpAny_bind (wpAny_standAt (wpAny_bind fun Γ p hΓ => ?_))) fun _ _ p => p.after E'))
    rw [Sem.wp_operate]
    refine (wp_go (h₅ A a s₅ y t S₅ (r₂.ext (E₃.trans (E₄.trans E₅))) r₅) (fun u c' H₆ s₆ h₆ S₆ r₆ E₆ => wpAny_holding (wp_fin ((E'.trans E₅).trans E₆) (h₆ A a s₆ u S₆ r₆))) fun _ _ p => p.after (E'.trans E₅) : wpAny C.M A _ _ _ s₅) Γ p hΓ

/- empty dicts -/
theorem newDict_W {A : Around} {s : Shared} {E : Value → Shared → Prop} {P : Value → Shared → Prop} (S : Sim C H s) (o : O) (ho : o = .dictI (fun _ => Option.none) 0 ∨ o = .dictS (fun _ => Option.none) 0)
    (h : ∀ a s', H a = Option.none → Sim C (H.set a o) s' → Ext H s.heap (H.set a o) s'.heap → P (.ref a) s') : wpAny C.M A newDict P E s := by
  have hk : ∀ b o, s.heap.get? b = some o → (s.heap.push { cls := .type "dict", data := .dict #[] }).get? b = some o := fun b o e => Heap.get?_push_of_some _ e
  refine wpAny_newObj_type ?_
  have r : ORel C (s.heap.push { cls := .type "dict", data := .dict #[] }) (H.set s.heap.objs.size o) s.heap.objs.size o := by
    rcases ho with rfl | rfl
    · exact ⟨[], Heap.DictOf.new _, Nat.le_refl _, fun _ => trivial⟩
    · exact ⟨[], Heap.DictOf.new _, Nat.le_refl _, fun _ => trivial⟩
  obtain ⟨S', E'⟩ := S.alloc (s' := { s with heap := s.heap.push { cls := .type "dict", data := .dict #[] } }) hk rfl rfl r
  exact h _ _ (S.fresh (Nat.le_refl _)) S' E'
theorem EvalW.dictI {p} (h : ∀ a, H a = Option.none → Q (.ref a) (H.set a (.dictI (fun _ => Option.none) 0))) : EvalW C k env (.Dict [] [] p) Q R ρ H := fun A a s S => by
  rw [eval_Dict_empty]
  exact wpAny_bind (wpAny_standAt (newDict_W S.sim _ (.inl rfl) fun b s' n S' E' => ⟨_, _, h b n, S', .ref b, E'⟩))
/- item stores -/
theorem valueAt_stored' {K : Type} [DecidableEq K] (kvs : List (K × Value)) (k x : K) (v : Value) : valueAt (stored kvs k v) x = if x = k then some v else valueAt kvs x := by
  unfold valueAt stored
  split
  · rename_i hany
    induction kvs with
    | nil => simp at hany
    | cons p r ih =>
      obtain ⟨a, b⟩ := p
      by_cases hak : a = k
      · subst hak
        by_cases hx : x = a
        · subst hx; simp
        · have : ¬ a = x := fun e => hx e.symm
          by_cases hr : (r.any fun kv => decide (kv.1 = a)) = true
          · have ih' := ih hr
            simp only [hx, if_false] at ih' ⊢
            simp only [List.map_cons, if_true, List.find?_cons, this, decide_false]
            exact ih'
          · have hmap : r.map (fun kv => if kv.1 = a then (kv.1, v) else kv) = r := by
              refine (List.map_congr_left fun y hy => ?_).trans (List.map_id r)
              have : ¬ y.1 = a := fun e => hr (List.any_eq_true.mpr ⟨y, hy, by simp [e]⟩)
              simp [this]
            simp only [hx, if_false, List.map_cons, if_true, List.find?_cons, this, decide_false, hmap]
      · have hr : (r.any fun kv => decide (kv.1 = k)) = true := by simpa [hak] using hany
        have ih' := ih hr
        simp only [List.map_cons, hak, if_false, List.find?_cons]
        by_cases hx : a = x
        · subst hx; simp [hak]
        · simp only [hx, decide_false]; exact ih'
  · rename_i hany
    rw [List.find?_append]
    by_cases hx : x = k
    · subst hx
      have : kvs.find? (fun kv => decide (kv.1 = x)) = Option.none := by
        rw [List.find?_eq_none]; intro y hy; simp; intro e; exact hany (List.any_eq_true.mpr ⟨y, hy, by simp [e]⟩)
      simp [this]
    · have : ¬ k = x := fun e => hx e.symm
      simp [hx, this]

def SetW (C : Cx) (k : Nat) (v i u : V) (Q : Hp → Prop) (R : V → Hp → Prop) (H : Hp) : Prop :=
  ∀ A, Lv C k A → ∀ s x y z, Sim C H s → VRel s.heap H v x → VRel s.heap H i y → VRel s.heap H u z → wpAny C.M A (setItem x y z) (Post C H s.heap (fun _ _ (_ _ : Unit) => True) (fun _ H' => Q H')) (Post C H s.heap VRel R) s
theorem ExecW.assign_sub {o i p' e p} (h : EvalW C k env e (fun u H₁ => EvalW C k env o (fun v H₂ => EvalW C k env i (fun j H₃ => SetW C k v j u (fun H₄ => QS .next ρ H₄) (fun w H' => RS w ρ H') H₃) (fun w H' => RS w ρ H') ρ H₂) (fun w H' => RS w ρ H') ρ H₁) (fun w H' => RS w ρ H') ρ H)
    (hs : swapsWith e (some (.Subscript o i p')) p.line env = pure false := by rfl) : ExecW C k env (.Assign [.Subscript o i p'] e p) QS RS ρ H := fun A a s S => by
  refine wpAny_Assign_Subscript (wp_go (h A a s S) (fun z u H₁ s₁ h₁ S₁ r₁ E₁ => ?_) fun _ _ p => p.toX S) hs
  refine wp_go (h₁ A a s₁ (S.ext S₁ E₁)) (fun x v H₂ s₂ h₂ S₂ r₂ E₂ => ?_) fun _ _ p => (p.after E₁).toX S
  refine wp_go (h₂ A a s₂ (S.ext S₂ (E₁.trans E₂))) (fun y j H₃ s₃ h₃ S₃ r₃ E₃ => ?_) fun _ _ p => (p.after (E₁.trans E₂)).toX S
  refine wpAny_mono (h₃ A a s₃ x y z S₃ (r₂.ext E₃) r₃ (r₁.ext (E₂.trans E₃))) ?_ fun _ _ p => (p.after ((E₁.trans E₂).trans E₃)).toX S
  rintro _ s₄ ⟨_, H₄, q, S₄, _, E₄⟩
  have E := ((E₁.trans E₂).trans E₃).trans E₄
  exact ⟨.next, ρ, H₄, q, trivial, S.ext S₄ E, E.toF⟩
theorem SetW.dictI {a : Addr} {m : Int → Option V} {n : Nat} {i : Int} {u : V} {QH : Hp → Prop} (ha : H a = some (.dictI m n)) (hn : n ≤ 100000) (h : QH (H.set a (.dictI (fun x => if x = i then some u else m x) (n + 1)))) : SetW C k (.ref a) (.int i) u QH R H := fun A lv s x y z S r1 r2 r3 => by
  cases r1; cases r2
  obtain ⟨f, hm, hle, hr⟩ := S.objs _ _ ha
  refine wpAny_setItem_pairs (intKind_is _ _ _ _) hm (fun h' hm' hs => ?_) (Nat.le_trans hle (Nat.le_trans hn (by decide)))
  have hex : ∃ ob, h'.get? a = some ob := let ⟨o, _, _, e, _⟩ := hm'; ⟨o, e⟩
  have hne : ∀ b, H b = none → b ≠ a := fun b e q => by subst q; rw [ha] at e; cases e
  have E0 : ∀ o', ExtV H s.heap (H.set a o') h' := fun o' b ob _ _ e _ n => ⟨(hs.2 b (hne b n)).trans e, by unfold Hp.set; rw [if_neg (hne b n)]; exact n⟩
  obtain ⟨S', E'⟩ := S.update (s' := { s with heap := h', toks := s.toks + 1 }) (o' := .dictI (fun x => if x = i then some u else m x) (n + 1)) ha hs hex rfl rfl
    ⟨_, hm', Nat.le_trans (stored_length_le _ _ _) (Nat.succ_le_succ hle), fun x => by
      rw [valueAt_stored']
      by_cases q : x = i
      · simp only [q, if_true]; exact r3.extV (E0 _)
      · simp only [q, if_false]; exact (hr x).extV (E0 _)⟩
  exact ⟨(), _, h, S', trivial, E'⟩
theorem SetW.list {a : Addr} {l : List V} {i : Int} {u : V} {QH : Hp → Prop} (ha : H a = some (.list l)) (h0 : 0 ≤ i) (hi : i < l.length) (hn : l.length ≤ 100000) (h : QH (H.set a (.list (l.set i.toNat u)))) : SetW C k (.ref a) (.int i) u QH R H := fun A lv s x y z S r1 r2 r3 => by
  cases r1; cases r2
  obtain ⟨xs, hl, rl⟩ := S.objs _ _ ha
  have hz : xs.size = l.length := by have := rl.length; simpa using this
  obtain ⟨n, ho⟩ := hl
  refine ki_setAt (items := xs) (n := n) ho h0 (by omega) (by omega) ?_
  have e1 : Obj.mapSeq (·.setIfInBounds i.toNat z) { cls := .type "list", data := .seq xs n } = { cls := .type "list", data := .seq (xs.setIfInBounds i.toNat z) n } := by simp [Obj.mapSeq]
  have hs := Heap.SameBut.update s.heap a (Obj.mapSeq (·.setIfInBounds i.toNat z))
  have hl' : (s.heap.update a (Obj.mapSeq (·.setIfInBounds i.toNat z))).PlainList a (xs.setIfInBounds i.toNat z) := ⟨n, by rw [Heap.get?_update_self _ ho (by rw [e1]; rfl), e1]⟩
  generalize s.heap.update a (Obj.mapSeq (·.setIfInBounds i.toNat z)) = h' at hs hl'
  have hex : ∃ ob, h'.get? a = some ob := let ⟨_, e⟩ := hl'; ⟨_, e⟩
  have hne : ∀ b, H b = none → b ≠ a := fun b e q => by subst q; rw [ha] at e; cases e
  have E0 : ExtV H s.heap (H.set a (.list (l.set i.toNat u))) h' := fun b ob _ _ e _ n => ⟨(hs.2 b (hne b n)).trans e, by unfold Hp.set; rw [if_neg (hne b n)]; exact n⟩
  obtain ⟨S', E'⟩ := S.update (s' := { s with heap := h' }) (o' := .list (l.set i.toNat u)) ha hs hex rfl rfl ⟨_, hl', by simpa using (rl.extV E0).set (r3.extV E0)⟩
  exact ⟨(), _, h, S', trivial, E'⟩

end Mine

set_option Elab.async false
set_option linter.unusedVariables false
namespace Mine
open PySem PySem.W PyProof.Rows

variable {C : Cx} {k : Nat} {env : Env} {ρ : Rho} {H : Hp} {Q R : V → Hp → Prop} {QB : Bool → Hp → Prop} {QS : Fl → Rho → Hp → Prop} {RS : V → Rho → Hp → Prop}

theorem VRelL.bools {h : Heap} : ∀ {bs : List Bool} {xs : List Value}, VRelL h H (bs.map V.bool) xs → xs = bs.map Value.bool
  | [], _, .nil => rfl
  | b :: bs, _, .cons r rl => by cases r; rw [rl.bools]; rfl
theorem truthOf_bools {A : Around} {prog : Program} {w : World} {xs : Array Value} {bs : List Bool} (e : xs.toList = bs.map Value.bool) : TruthOf prog w A (fun i v => xs[i]? = some v) (fun i => bs.getD i false) := by
  intro i v s Q E hv hq
  have : xs.toList[i]? = some v := by simpa using hv
  rw [e, List.getElem?_map] at this
  obtain ⟨b, hb, rfl⟩ := Option.map_eq_some_iff.mp this
  refine wpAny_truthy_bool ?_
  simpa [List.getD, hb] using hq
theorem range_all (bs : List Bool) : (List.range bs.length).all (fun i => bs.getD i false) = bs.all id := by
  rw [Bool.eq_iff_iff]
  simp only [List.all_eq_true, List.mem_range]
  constructor
  · intro h b hb
    obtain ⟨i, hi, rfl⟩ := List.mem_iff_getElem.mp hb
    simpa [List.getD, hi] using h i hi
  · intro h i hi
    simpa [List.getD, hi] using h bs[i] (List.getElem_mem hi)
theorem iter_list_W {A : Around} {s : Shared} {a : Addr} {xs : Array Value} (S : Sim C H s) (hl : s.heap.IsList a xs) {P : Value → Shared → Prop} {E : Value → Shared → Prop} (hh : A.handled = none)
    (h : ∀ I s', Walks C.prog C.w A I [I, a] [I] xs.size (fun i v => xs[i]? = some v) (fun i h => h.IsListIter I a i ∧ h.IsList a xs) → (s'.heap.IsListIter I a 0 ∧ s'.heap.IsList a xs) → s.heap.objs.size ≤ I →
      (∀ b o, s.heap.get? b = some o → s'.heap.get? b = some o) → s'.gens = s.gens → s'.os = s.os → P (.ref I) s') : wpAny C.M A (pyIter (.ref a)) P E s := by
  refine wpAny_pyIter_list hl (h _ _ (Walks.list hh _ a ?_ xs) ⟨⟨_, Heap.get?_push_size _ rfl, rfl, rfl⟩, hl.push _⟩ (Nat.le_refl _) (fun b o e => Heap.get?_push_of_some _ e) rfl rfl)
  obtain ⟨o, e, _⟩ := hl
  exact Nat.ne_of_lt (Heap.lt_size e)

theorem CallW.all {v : V} {bs : List Bool} (hd : C.hd = true) (hl : lview H v = some (bs.map .bool)) (h : Q (.bool (bs.all id)) H) : CallW C k (.builtin "all") [v] Q R H := fun A a s xs S r => by
  cases r with
  | cons r r' =>
    cases r'
    obtain ⟨ad, ys, rfl, hL, rl⟩ := lview_list hl S r
    have e := rl.bools
    have hz : ys.size = bs.length := by have := rl.length; simpa using this
    refine call_all_walk (iter_list_W S hL (a.handled hd) fun I s' W st hI hk hg ho => ⟨I, _, _, _, _, _, _, rfl, W, st, truthOf_bools e, fun h' tk hk' => ?_⟩)
    rw [hz, range_all]
    have hk2 : ∀ b o, s.heap.get? b = some o → h'.get? b = some o := fun b o q => hk' b o (fun m => by simp at m; subst m; exact absurd (Heap.lt_size q) (Nat.not_lt.mpr hI)) (hk b o q)
    exact ⟨_, H, h, S.grown (s' := { s' with heap := h', toks := tk }) hk2 hg ho, .bool _, Ext.grown hk2⟩
/-- a new list laid at the heap's end -/
theorem newAt_W {s s' : Shared} {l : List V} {xs : Array Value} (S : Sim C H s) (hk : ∀ b o, s.heap.get? b = some o → s'.heap.get? b = some o) (hl : s'.heap.PlainList s.heap.objs.size xs) (r : VRelL s.heap H l xs.toList) (hg : s'.gens = s.gens) (ho : s'.os = s.os)
    (h : ∀ a, H a = Option.none → Q (.ref a) (H.set a (.list l))) : Post C H s.heap VRel Q (.ref s.heap.objs.size) s' := by
  have E0 : Ext H s.heap (H.set s.heap.objs.size (.list l)) s'.heap :=
    ⟨fun a ob e _ => hk a ob e, fun a ob e n => by unfold Hp.set; rw [if_neg (Nat.ne_of_lt (Heap.lt_size e))]; exact n, fun a ob e => ⟨ob, hk a ob e⟩⟩
  obtain ⟨S', E'⟩ := S.alloc hk hg ho (o := .list l) ⟨xs, hl, r.ext E0⟩
  exact ⟨_, _, h _ (S.fresh (Nat.le_refl _)), S', .ref _, E'⟩

theorem CallW.listCopy {v : V} {l : List V} (hl : lview H v = some l) (hn : l.length ≤ 100000) (h : ∀ a, H a = Option.none → Q (.ref a) (H.set a (.list l))) : CallW C k (.type "list") [v] Q R H := fun A a s xs S r => by
  cases r with
  | cons r r' =>
    cases r'
    obtain ⟨ad, ys, rfl, ⟨o, e, c, n, d⟩, rl⟩ := lview_list hl S r
    have hz : ys.size = l.length := by have := rl.length; simpa using this
    refine call_list_seq (hsz := by rw [hz]; exact Nat.le_trans hn (by decide)) ad (.inl rfl) e c d fun h' c' hk hD => ?_
    exact newAt_W S hk ⟨_, hD⟩ rl rfl rfl h
end Mine

set_option Elab.async false
set_option linter.unusedVariables false
namespace Mine
open PySem PySem.W PyProof.Rows

variable {C : Cx} {k : Nat} {env : Env} {ρ : Rho} {H : Hp} {Q R : V → Hp → Prop} {QB : Bool → Hp → Prop} {QS : Fl → Rho → Hp → Prop} {RS : V → Rho → Hp → Prop}

end Mine

set_option Elab.async false
set_option linter.unusedVariables false
namespace Mine
open PySem PySem.W PyProof.Rows

variable {C : Cx} {k : Nat} {env : Env} {ρ : Rho} {H : Hp} {Q R : V → Hp → Prop} {QB : Bool → Hp → Prop} {QS : Fl → Rho → Hp → Prop} {RS : V → Rho → Hp → Prop}

theorem MethIs.list {a : Addr} {l : List V} {name : Str} {id : String} (ha : H a = some (.list l)) (slot : Slot "list" name id) (hty : typeOf (.builtin id) = pure (.type "method_descriptor")) : MethIs C H (.ref a) name (.builtin id) := by
  intro A s x pl Q E S r hq
  cases r
  obtain ⟨xs, ⟨n, ho⟩, rl⟩ := S.objs _ _ ha
  exact getMethod_builtin ⟨_, ho, rfl⟩ PySem.F.plainAttrs_list slot hty (fun a e => by cases e; exact ⟨_, ho, rfl⟩) hq
theorem MethIs.append {a : Addr} {l : List V} (ha : H a = some (.list l)) : MethIs C H (.ref a) "append" (.builtin "list.append") := MethIs.list ha slot_list_append type_list_append

theorem CallW.append {a : Addr} {l : List V} {v : V} (ha : H a = some (.list l)) (hn : l.length ≤ 1000) (h : Q .none (H.set a (.list (l ++ [v])))) : CallW C k (.builtin "list.append") [.ref a, v] Q R H := fun A lv s xs S r => by
  cases r with
  | cons r1 r' => cases r' with
    | cons r2 r' => cases r'; cases r1; exact append_W S ha hn r2 fun s' S' E' => ⟨.none, _, h, S', .none, E'⟩

theorem lview_ref {a : Addr} {l : List V} (ha : H a = some (.list l)) : lview H (.ref a) = some l := by simp [lview, ha]
theorem lview_le {H H' : Hp} (hle : Hp.le H H') {v : V} {l : List V} (h : lview H v = some l) : lview H' v = some l := by
  cases v with
  | ref a =>
    simp only [lview] at h ⊢
    split at h
    · rename_i l' e; cases h; rw [hle _ _ e]
    · cases h
  | _ => exact h
theorem Hp.le_set {H : Hp} {a : Addr} {o : O} (ha : H a = Option.none) : Hp.le H (H.set a o) := fun b ob e => by
  unfold Hp.set; split
  · rename_i q; subst q; rw [ha] at e; cases e
  · exact e
theorem Hp.set_self (H : Hp) (a : Addr) (o : O) : (H.set a o) a = some o := by simp [Hp.set]
theorem Hp.set_ne {H : Hp} {a b : Addr} {o : O} (h : b ≠ a) : (H.set a o) b = H b := by simp [Hp.set, h]
theorem Hp.set_set (H : Hp) (a : Addr) (o o' : O) : (H.set a o).set a o' = H.set a o' := by
  funext b; simp only [Hp.set]; split <;> rfl
theorem lcond_le {H H' : Hp} {v : V} {l : List V} (h : lview H v = some l) (hle : Hp.le H H') : lcond v l H' := lview_le hle h

/-- names by a list -/
def Rho.of : List (Str × V) → Rho
  | [] => fun _ => Option.none
  | (x, v) :: l => (Rho.of l).set x v
def Rho.sat : List (Str × V) → Rho → Prop
  | [], _ => True
  | (x, v) :: l, ρ => ρ x = some v ∧ Rho.sat l ρ
theorem Rho.sat.le : ∀ {l : List (Str × V)} {ρ : Rho}, Rho.sat l ρ → Rho.le (Rho.of l) ρ
  | [], ρ, _ => fun y w e => by cases e
  | (x, v) :: l, ρ, h => fun y w e => by
    simp only [Rho.of, Rho.set] at e
    split at e
    · rename_i q; subst q; cases e; exact h.1
    · exact Rho.sat.le h.2 y w e
theorem Rho.le_refl (ρ : Rho) : Rho.le ρ ρ := fun _ _ e => e

theorem ExecW.weaken {st ρ'} (hle : Rho.le ρ ρ') (h : ExecW C k env st QS RS ρ H) : ExecW C k env st QS RS ρ' H := fun A a s S => h A a s (S.weaken hle)
theorem ExecsW.conseq {sts} {Q' : Fl → Rho → Hp → Prop} (h : ExecsW C k env sts Q' RS ρ H) (hq : ∀ fl ρ₁ H₁, Q' fl ρ₁ H₁ → ∃ ρ₂, Rho.le ρ₂ ρ₁ ∧ QS fl ρ₂ H₁) : ExecsW C k env sts QS RS ρ H := fun A a s S =>
  wpAny_mono (h A a s S) (fun x s' ⟨fl, ρ₁, H₁, q, r, S', E⟩ => let ⟨ρ₂, hle, q'⟩ := hq fl ρ₁ H₁ q; ⟨fl, ρ₂, H₁, q', r, S'.weaken hle, E⟩) fun _ _ p => p
theorem AssignW.conseq {t v} {P P' : Rho → Prop} (h : AssignW C k env t v P ρ H) (hp : ∀ ρ, P ρ → P' ρ) : AssignW C k env t v P' ρ H := fun A a s x S r P₀ E hP => h A a s x S r P₀ E fun ρ' s' q => hP ρ' s' (hp _ q)

/-- what a loop's body leaves -/
def LoopQ (Inv : List (Str × V) → Hp → Prop) (QS : Fl → Rho → Hp → Prop) : Fl → Rho → Hp → Prop
  | .next, ρ, H => ∃ l, Inv l H ∧ Rho.sat l ρ
  | .cont, ρ, H => ∃ l, Inv l H ∧ Rho.sat l ρ
  | .brk, ρ, H => QS .next ρ H
  | .ret u, ρ, H => QS (.ret u) ρ H

theorem ExecW.for_in {target iter body pos} (tup : Bool) (hd : C.hd = true) (ht : IsTupleE tup target)
    (h : IterE C k env tup iter (fun items cond H₁ => ∃ Inv : List V → List (Str × V) → Hp → Prop, (∃ l, Inv items l H₁ ∧ Rho.sat l ρ) ∧ (∀ r l H, Inv r l H → cond H) ∧
      (∀ v r l H, Inv (v :: r) l H → AssignW C k env target v (fun ρ' => ExecsW C k env body (LoopQ (Inv r) QS) (fun _ _ _ => False) ρ' H) (Rho.of l) H) ∧
      (∀ l H, Inv [] l H → QS .next (Rho.of l) H)) (fun v H' => RS v ρ H') ρ H)
    (hs : ∀ x, foldedSetIterable iter env x = pure x := by intro _; rfl) : ExecW C k env (.For target iter body [] pos) QS RS ρ H := fun A a s S => by
  refine wpAny_For ?_ hs
  refine h A a s S _ _ (fun _ _ p => p.toX S) ?_
  rintro I wr St items cond H₂ s₂ ⟨Inv, ⟨l, hi, hl⟩, hc, step, fin⟩ IT hcd st hn S₂ E₂
  refine for_core IT ht hd a (ρ := Rho.of l) (fun r ρ H => ∃ l, ρ = Rho.of l ∧ Inv r l H) (fun r ρ H ⟨l, _, h⟩ => hc r l H h) ?_ ?_ hn (fun f s' p => p) items s₂ ((S.ext S₂ E₂).weaken hl.le) E₂.toF st ⟨l, rfl, hi⟩
  · rintro v r ρ H ⟨l, rfl, hi⟩
    refine (step v r l H hi).conseq fun ρ' hb => hb.conseq fun fl ρ₁ H₁ q => ?_
    cases fl with
    | next => obtain ⟨l', i', s'⟩ := q; exact ⟨_, s'.le, l', rfl, i'⟩
    | cont => obtain ⟨l', i', s'⟩ := q; exact ⟨_, s'.le, l', rfl, i'⟩
    | brk => exact ⟨_, Rho.le_refl _, q⟩
    | ret u => exact ⟨_, Rho.le_refl _, q⟩
  · rintro ρ H ⟨l, rfl, hi⟩; exact fin l H hi

theorem ExecW.while_in {test body pos} (Inv : Nat → List (Str × V) → Hp → Prop) (n : Nat) (h0 : ∃ l, Inv n l H ∧ Rho.sat l ρ)
    (step : ∀ n l H, Inv n l H → TestW C k env test (fun b H' => if b = true then ExecsW C k env body (LoopQ (fun l H => ∃ m, m < n ∧ Inv m l H) QS) (fun _ _ _ => False) (Rho.of l) H' else QS .next (Rho.of l) H') (fun _ _ => False) (Rho.of l) H) :
    ExecW C k env (.While test body [] pos) QS RS ρ H := by
  obtain ⟨l, hi, hl⟩ := h0
  refine ExecW.weaken hl.le (ExecW.while_ (fun n ρ H => ∃ l, ρ = Rho.of l ∧ Inv n l H) n ⟨l, rfl, hi⟩ ?_)
  rintro n ρ H ⟨l, rfl, hi⟩ A a s S
  refine wpAny_mono (step n l H hi A a s S) (fun b s' ⟨b', H', q, r⟩ => ⟨b', H', ?_, r⟩) fun _ _ p => p
  cases b'
  · exact q
  · refine ExecsW.conseq q fun fl ρ₁ H₁ q => ?_
    cases fl with
    | next => obtain ⟨l', ⟨m, hm, i'⟩, s'⟩ := q; exact ⟨_, s'.le, m, hm, l', rfl, i'⟩
    | cont => obtain ⟨l', ⟨m, hm, i'⟩, s'⟩ := q; exact ⟨_, s'.le, m, hm, l', rfl, i'⟩
    | brk => exact ⟨_, Rho.le_refl _, q⟩
    | ret u => exact ⟨_, Rho.le_refl _, q⟩

/-- a comprehension over one name, with no effect but the list that it makes -/
def PureStep (C : Cx) (k : Nat) (env : Env) (x : Str) (elt : Expr) (ifs : List Expr) (scope : Scope) (ρ : Rho) (g : V → Option V) (H : Hp) (v : V) : Prop :=
  ∀ L, IfsW C k (cenvOf env scope L) ifs (fun b H₂ => H₂ = H ∧ if b = true then EvalW C k (cenvOf env scope L) elt (fun u H₃ => H₃ = H ∧ g v = some u) (fun _ _ => False) ((Rho.hide scope ρ).set x v) H else g v = Option.none) (fun _ _ => False) ((Rho.hide scope ρ).set x v) H

def compVar (env : Env) (scope : Scope) (x : Str) : Bool := scope.names.lookup x == some .local && ((cenvOf env scope 0).scope.names.lookup x == some .local)
theorem compVar.hide {scope : Scope} {x : Str} (h : compVar env scope x = true) : scope.names.lookup x = some .local := by
  simp only [compVar, Bool.and_eq_true] at h; exact eq_of_beq h.1
theorem compVar.kind {scope : Scope} {x : Str} (h : compVar env scope x = true) (L : Addr) : (cenvOf env scope L).kindOf x = some .local := by
  simp only [compVar, Bool.and_eq_true] at h; exact eq_of_beq h.2
theorem Rho.le_hide {scope : Scope} {x : Str} {v : V} (hx : scope.names.lookup x = some .local) : Rho.le (Rho.hide scope ρ) ((Rho.hide scope ρ).set x v) := fun y w e => by
  unfold Rho.set
  split
  · rename_i q; subst q; unfold Rho.hide at e; rw [if_pos hx] at e; cases e
  · exact e

theorem EvalW.conseq {e} {Q' R' : V → Hp → Prop} (h : EvalW C k env e Q' R' ρ H) (hq : ∀ v H, Q' v H → Q v H) (hr : ∀ v H, R' v H → R v H) : EvalW C k env e Q R ρ H := fun A a s S =>
  wpAny_mono (h A a s S) (fun x s' ⟨v, H', q, r⟩ => ⟨v, H', hq _ _ q, r⟩) fun x s' ⟨v, H', q, r⟩ => ⟨v, H', hr _ _ q, r⟩
theorem IfsW.conseq {e} {Q' : Bool → Hp → Prop} {R' : V → Hp → Prop} (h : IfsW C k env e Q' R' ρ H) (hq : ∀ v H, Q' v H → QB v H) (hr : ∀ v H, R' v H → R v H) : IfsW C k env e QB R ρ H := fun A a s S =>
  wpAny_mono (h A a s S) (fun x s' ⟨v, H', q, r⟩ => ⟨v, H', hq _ _ q, r⟩) fun x s' ⟨v, H', q, r⟩ => ⟨v, H', hr _ _ q, r⟩

theorem pure_inv {x p elt ifs scope} {H₁ : Hp} {items : List V} (g : V → Option V) (hx : compVar env scope x = true) (hlen : items.length ≤ 1000)
    (hst : ∀ v ∈ items, ∀ H', Hp.le H₁ H' → PureStep C k env x elt ifs scope ρ g H' v) :
    CompInv C k env elt (.Name x p) ifs scope ρ (fun D r acc H => ∃ done, items = done ++ r ∧ acc = done.filterMap g ∧ H₁ D = none ∧ H = H₁.set D (.list acc)) := by
  constructor
  · rintro D r acc H ⟨done, e1, e2, e3, e4⟩
    refine ⟨by rw [e4, Hp.set_self], ?_⟩
    have : (done.filterMap g).length ≤ done.length := List.length_filterMap_le ..
    have h2 : items.length = done.length + r.length := by rw [e1]; simp
    rw [e2]; omega
  · rintro L D v r acc H ⟨done, e1, e2, e3, rfl⟩
    refine AssignL.name (compVar.kind hx L) ⟨Rho.le_hide (compVar.hide hx), ?_⟩
    refine (hst v (by rw [e1]; simp) (H₁.set D (.list acc)) (Hp.le_set e3) L).conseq ?_ (fun _ _ h => h)
    rintro b H₂ ⟨rfl, hb⟩
    cases b
    · simp only [Bool.false_eq_true, if_false] at hb ⊢
      exact ⟨done ++ [v], by rw [e1]; simp, by rw [e2]; simp [hb], e3, by trivial⟩
    · simp only [if_true] at hb ⊢
      refine hb.conseq ?_ (fun _ _ h => h)
      rintro u H₃ ⟨rfl, hg⟩
      refine ⟨Hp.set_self .., done ++ [v], by rw [e1]; simp, by rw [e2]; simp [hg], e3, ?_⟩
      rw [Hp.set_set]

theorem fz_new {D : Addr} {acc : List V} (hD : H D = none) : Fz (H.set D (.list acc)) (.ref D) (.lst acc) H := by
  refine Fz.of (D := fun a => a = D) (.thaw rfl (Hp.set_self ..) (FzRL_refl acc)) (Hp.le_set hD) ?_
  rintro a rfl; exact hD
where FzRL_refl {H : Hp} {D : Addr → Prop} : ∀ l : List V, FzRL H D l l
  | [] => .nil
  | v :: l => .cons (.refl v) (FzRL_refl l)

/-- ends in a frozen list -/
theorem EvalW.compP {x p elt iter ifs scope pos} (g : V → Option V) (cs : compOk env scope = true) (hd : C.hd = true) (hx : compVar env scope x = true)
    (h : IterE C k env false iter (fun items cond H₁ => items.length ≤ 1000 ∧ (∀ H', Hp.le H₁ H' → cond H') ∧ (∀ v ∈ items, ∀ H', Hp.le H₁ H' → PureStep C k env x elt ifs scope ρ g H' v) ∧ Q (.lst (items.filterMap g)) H₁) R ρ H)
    (hs : ∀ x, foldedSetIterable iter env x = pure x := by intro _; rfl) :
    EvalW C k env (.ListComp elt [⟨.Name x p, iter, ifs, 0⟩] scope pos) Q R ρ H := by
  refine EvalW.comp false cs hd (fun e => by cases e) ?_ hs
  intro A a s S P PE hPE hP
  refine h A a s S P PE hPE ?_
  rintro I wr St items cond H₂ s₂ ⟨h1, h2, h3, h4⟩
  refine hP I wr St items cond H₂ s₂ ⟨_, pure_inv g hx h1 h3, fun D hD => ⟨[], rfl, rfl, hD, rfl⟩, ?_, ?_⟩
  · rintro D r acc H ⟨done, _, _, e3, rfl⟩; exact h2 _ (Hp.le_set e3)
  · rintro D acc H' ⟨done, e1, e2, e3, rfl⟩
    refine ⟨_, _, fz_new e3, ?_⟩
    rw [List.append_nil] at e1
    rw [e2, ← e1]; exact h4
/-- ends in an owned list -/
theorem EvalW.compO {x p elt iter ifs scope pos} (g : V → Option V) (cs : compOk env scope = true) (hd : C.hd = true) (hx : compVar env scope x = true)
    (h : IterE C k env false iter (fun items cond H₁ => items.length ≤ 1000 ∧ (∀ H', Hp.le H₁ H' → cond H') ∧ (∀ v ∈ items, ∀ H', Hp.le H₁ H' → PureStep C k env x elt ifs scope ρ g H' v) ∧ ∀ D, H₁ D = Option.none → Q (.ref D) (H₁.set D (.list (items.filterMap g)))) R ρ H)
    (hs : ∀ x, foldedSetIterable iter env x = pure x := by intro _; rfl) :
    EvalW C k env (.ListComp elt [⟨.Name x p, iter, ifs, 0⟩] scope pos) Q R ρ H := by
  refine EvalW.comp false cs hd (fun e => by cases e) ?_ hs
  intro A a s S P PE hPE hP
  refine h A a s S P PE hPE ?_
  rintro I wr St items cond H₂ s₂ ⟨h1, h2, h3, h4⟩
  refine hP I wr St items cond H₂ s₂ ⟨_, pure_inv g hx h1 h3, fun D hD => ⟨[], rfl, rfl, hD, rfl⟩, ?_, ?_⟩
  · rintro D r acc H ⟨done, _, _, e3, rfl⟩; exact h2 _ (Hp.le_set e3)
  · rintro D acc H' ⟨done, e1, e2, e3, rfl⟩
    refine ⟨_, _, Fz.refl, ?_⟩
    rw [List.append_nil] at e1
    rw [e2, ← e1]; exact h4 D e3
theorem ExecW.assign_compP {y p' x p elt iter ifs scope cpos pos} (g : V → Option V) (hk : env.kindOf y = some .local) (cs : compOk env scope = true) (hd : C.hd = true) (hx : compVar env scope x = true)
    (h : IterE C k env false iter (fun items cond H₁ => items.length ≤ 1000 ∧ (∀ H', Hp.le H₁ H' → cond H') ∧ (∀ v ∈ items, ∀ H', Hp.le H₁ H' → PureStep C k env x elt ifs scope ρ g H' v) ∧ QS .next (ρ.set y (.lst (items.filterMap g))) H₁) (fun v H' => RS v ρ H') ρ H)
    (hsw : swapsWith (.ListComp elt [⟨.Name x p, iter, ifs, 0⟩] scope cpos) (some (.Name y p')) pos.line env = pure true := by rfl)
    (hs : ∀ x, foldedSetIterable iter env x = pure x := by intro _; rfl) :
    ExecW C k env (.Assign [.Name y p'] (.ListComp elt [⟨.Name x p, iter, ifs, 0⟩] scope cpos) pos) QS RS ρ H := by
  refine ExecW.assign_comp false hk cs hd (fun e => by cases e) ?_ hsw hs
  intro A a s S P PE hPE hP
  refine h A a s S P PE hPE ?_
  rintro I wr St items cond H₂ s₂ ⟨h1, h2, h3, h4⟩
  refine hP I wr St items cond H₂ s₂ ⟨_, pure_inv g hx h1 h3, fun D hD => ⟨[], rfl, rfl, hD, rfl⟩, ?_, ?_⟩
  · rintro D r acc H ⟨done, _, _, e3, rfl⟩; exact h2 _ (Hp.le_set e3)
  · rintro D acc H' ⟨done, e1, e2, e3, rfl⟩
    refine ⟨_, _, fz_new e3, ?_⟩
    rw [List.append_nil] at e1
    rw [e2, ← e1]; exact h4
theorem ExecW.assign_compO {y p' x p elt iter ifs scope cpos pos} (g : V → Option V) (hk : env.kindOf y = some .local) (cs : compOk env scope = true) (hd : C.hd = true) (hx : compVar env scope x = true)
    (h : IterE C k env false iter (fun items cond H₁ => items.length ≤ 1000 ∧ (∀ H', Hp.le H₁ H' → cond H') ∧ (∀ v ∈ items, ∀ H', Hp.le H₁ H' → PureStep C k env x elt ifs scope ρ g H' v) ∧ ∀ D, H₁ D = Option.none → QS .next (ρ.set y (.ref D)) (H₁.set D (.list (items.filterMap g)))) (fun v H' => RS v ρ H') ρ H)
    (hsw : swapsWith (.ListComp elt [⟨.Name x p, iter, ifs, 0⟩] scope cpos) (some (.Name y p')) pos.line env = pure true := by rfl)
    (hs : ∀ x, foldedSetIterable iter env x = pure x := by intro _; rfl) :
    ExecW C k env (.Assign [.Name y p'] (.ListComp elt [⟨.Name x p, iter, ifs, 0⟩] scope cpos) pos) QS RS ρ H := by
  refine ExecW.assign_comp false hk cs hd (fun e => by cases e) ?_ hsw hs
  intro A a s S P PE hPE hP
  refine h A a s S P PE hPE ?_
  rintro I wr St items cond H₂ s₂ ⟨h1, h2, h3, h4⟩
  refine hP I wr St items cond H₂ s₂ ⟨_, pure_inv g hx h1 h3, fun D hD => ⟨[], rfl, rfl, hD, rfl⟩, ?_, ?_⟩
  · rintro D r acc H ⟨done, _, _, e3, rfl⟩; exact h2 _ (Hp.le_set e3)
  · rintro D acc H' ⟨done, e1, e2, e3, rfl⟩
    refine ⟨_, _, Fz.refl, ?_⟩
    rw [List.append_nil] at e1
    rw [e2, ← e1]; exact h4 D e3
end Mine

set_option Elab.async false
set_option linter.unusedVariables false
namespace Mine
open PySem PySem.W PyProof.Rows

variable {C : Cx} {k : Nat} {env : Env} {ρ : Rho} {H : Hp} {Q R : V → Hp → Prop} {QB : Bool → Hp → Prop} {QS : Fl → Rho → Hp → Prop} {RS : V → Rho → Hp → Prop}

theorem ite_w {b : Bool} {A B : Prop} (h1 : b = true → A) (h2 : b = false → B) : if b = true then A else B := by
  cases b
  · simpa using h2 rfl
  · simpa using h1 rfl
theorem ite_t {b : Bool} {A B : Prop} (h : b = true) (h1 : A) : if b = true then A else B := by rw [if_pos h]; exact h1
theorem ite_f {b : Bool} {A B : Prop} (h : b = false) (h1 : B) : if b = true then A else B := by rw [if_neg (by rw [h]; decide)]; exact h1

/-- a loop that looks at each item and goes on, or gives an answer -/
def AllQ (ok : Prop) (l0 : List (Str × V)) (H₁ : Hp) (Rt : V → Rho → Hp → Prop) : Fl → Rho → Hp → Prop
  | .next, ρ, H => ok ∧ H = H₁ ∧ Rho.sat l0 ρ
  | .cont, ρ, H => ok ∧ H = H₁ ∧ Rho.sat l0 ρ
  | .brk, _, _ => False
  | .ret u, ρ, H => Rt u ρ H

theorem ExecW.for_all {target iter body pos} (tup : Bool) (hd : C.hd = true) (ht : IsTupleE tup target) (l0 : List (Str × V)) (hl : Rho.sat l0 ρ)
    (h : IterE C k env tup iter (fun items cond H₁ => ∃ p : Nat → Prop, (cond H₁) ∧
      (∀ (i : Nat) v, items[i]? = some v → (∀ j, j < i → p j) → AssignW C k env target v (fun ρ' => ExecsW C k env body (AllQ (p i) l0 H₁ (fun u ρ'' H'' => QS (.ret u) ρ'' H'')) (fun _ _ _ => False) ρ' H₁) (Rho.of l0) H₁) ∧
      ((∀ j, j < items.length → p j) → QS .next (Rho.of l0) H₁)) (fun v H' => RS v ρ H') ρ H)
    (hs : ∀ x, foldedSetIterable iter env x = pure x := by intro _; rfl) : ExecW C k env (.For target iter body [] pos) QS RS ρ H := by
  refine ExecW.for_in tup hd ht ?_ hs
  intro A a s S P PE hPE hP
  refine h A a s S P PE hPE ?_
  rintro I wr St items cond H₁ s₂ ⟨p, hc, step, fin⟩
  refine hP I wr St items cond H₁ s₂ ⟨fun r l H => l = l0 ∧ H = H₁ ∧ ∃ i, r = items.drop i ∧ i ≤ items.length ∧ ∀ j, j < i → p j, ⟨l0, ⟨rfl, rfl, 0, rfl, Nat.zero_le _, fun j hj => absurd hj (Nat.not_lt_zero j)⟩, hl⟩, ?_, ?_, ?_⟩
  · rintro r l H ⟨rfl, rfl, _⟩; exact hc
  · rintro v r l H ⟨rfl, rfl, i, e, hi, hp⟩
    have hv : items[i]? = some v := by
      have := congrArg List.head? e
      simpa [List.head?_drop] using this.symm
    have hlt : i < items.length := (List.getElem?_eq_some_iff.mp hv).1
    have hr : r = items.drop (i + 1) := by
      have := congrArg List.tail e
      simpa [List.tail_drop] using this
    refine (step i v hv hp).conseq fun ρ' hb => hb.conseq fun fl ρ₁ H₁ q => ⟨ρ₁, Rho.le_refl _, ?_⟩
    have nx : ∀ {ρ₁ : Rho} {H₂ : Hp}, p i ∧ H₂ = H ∧ Rho.sat l ρ₁ → ∃ l', (l' = l ∧ H₂ = H ∧ ∃ i, r = items.drop i ∧ i ≤ items.length ∧ ∀ j, j < i → p j) ∧ Rho.sat l' ρ₁ := by
      rintro ρ₁ H₂ ⟨a, rfl, c⟩
      refine ⟨l, ⟨rfl, rfl, i + 1, hr, hlt, fun j hj => ?_⟩, c⟩
      by_cases q : j = i
      · rw [q]; exact a
      · exact hp j (by omega)
    cases fl with
    | next => exact nx q
    | cont => exact nx q
    | brk => exact q.elim
    | ret u => exact q
  · rintro l H ⟨rfl, rfl, i, e, hi, hp⟩
    have hle : items.length ≤ i := by
      have := congrArg List.length e
      simp at this; omega
    exact fin fun j hj => hp j (by omega)

theorem Hp.le_set' {H₀ H : Hp} {a : Addr} {o : O} (h : Hp.le H₀ H) (ha : H₀ a = Option.none) : Hp.le H₀ (H.set a o) := fun b ob e => by
  unfold Hp.set; split
  · rename_i q; subst q; rw [ha] at e; cases e
  · exact h b ob e
theorem fz_own {H₀ H : Hp} {a : Addr} {l : List V} (ha : H a = some (.list l)) (h : Hp.le H₀ H) (h0 : H₀ a = Option.none) : Fz H (.ref a) (.lst l) H₀ := by
  refine Fz.of (D := fun b => b = a) (.thaw rfl ha (fz_new.FzRL_refl l)) h ?_
  rintro b rfl; exact h0
end Mine
namespace Mine
open PySem PySem.W PyProof.Rows
variable {C : Cx} {k : Nat} {env : Env} {ρ : Rho} {H : Hp} {Q R : V → Hp → Prop} {QB : Bool → Hp → Prop} {QS : Fl → Rho → Hp → Prop} {RS : V → Rho → Hp → Prop}
theorem Cont.next {rest} (h : ExecsW C k env rest QS RS ρ H) : Cont C k env rest QS RS .next ρ H := h
theorem Cont.ret {rest v} (h : QS (.ret v) ρ H) : Cont C k env rest QS RS (.ret v) ρ H := h
theorem RetQ.here {v} (h : Q v H) : RetQ Q (.ret v) ρ H := ⟨_, _, Fz.refl, h⟩
theorem RetQ.fz {v v' H'} (f : Fz H v v' H') (h : Q v' H') : RetQ Q (.ret v) ρ H := ⟨_, _, f, h⟩
end Mine
namespace Mine
open PySem PySem.W PyProof.Rows
variable {C : Cx} {k : Nat} {env : Env} {ρ : Rho} {H : Hp} {Q R : V → Hp → Prop} {QB : Bool → Hp → Prop} {QS : Fl → Rho → Hp → Prop} {RS : V → Rho → Hp → Prop}
theorem drop_cons {items : List V} {v : V} {r : List V} {i : Nat} (e : v :: r = items.drop i) : items[i]? = some v ∧ r = items.drop (i + 1) ∧ i < items.length := by
  have hv : items[i]? = some v := by
    have := congrArg List.head? e
    simpa [List.head?_drop] using this.symm
  refine ⟨hv, ?_, (List.getElem?_eq_some_iff.mp hv).1⟩
  have := congrArg List.tail e
  simpa [List.tail_drop] using this
theorem drop_nil {items : List V} {i : Nat} (e : [] = items.drop i) : items.length ≤ i := by
  have := congrArg List.length e
  simp at this; omega
theorem PureStep.map {x elt scope} {g : V → Option V} {v : V} {ρ' : Rho} (hρ : ρ' = (Rho.hide scope ρ).set x v) (h : ∀ L, EvalW C k (cenvOf env scope L) elt (fun u H₃ => H₃ = H ∧ g v = some u) (fun _ _ => False) ρ' H) : PureStep C k env x elt [] scope ρ g H v :=
  fun L => IfsW.nil ⟨rfl, by simpa using hρ ▸ h L⟩
theorem PureStep.filt {x elt c scope} {g : V → Option V} {v : V} {ρ' : Rho} (hρ : ρ' = (Rho.hide scope ρ).set x v) (h : ∀ L, TestW C k (cenvOf env scope L) c (fun b H₂ => H₂ = H ∧ if b = true then EvalW C k (cenvOf env scope L) elt (fun u H₃ => H₃ = H ∧ g v = some u) (fun _ _ => False) ρ' H else g v = Option.none) (fun _ _ => False) ρ' H) : PureStep C k env x elt [c] scope ρ g H v :=
  fun L => IfsW.one (hρ ▸ h L)
end Mine
namespace Mine
open PySem PySem.W PyProof.Rows
theorem Storable.l {env : Env} {x : Str} (h : env.kindOf x = some .local) : Storable env x := Or.inl h
theorem Storable.c {env : Env} {x : Str} (h : env.kindOf x = some .cell) (h' : (env.cells.lookup x).isSome = true) : Storable env x := Or.inr ⟨h, h'⟩
end Mine
namespace Mine
open PySem PySem.W PyProof.Rows
variable {C : Cx} {k : Nat} {env : Env} {ρ : Rho} {H : Hp} {Q R : V → Hp → Prop} {QB : Bool → Hp → Prop} {QS : Fl → Rho → Hp → Prop} {RS : V → Rho → Hp → Prop} {QL : List V → Hp → Prop}
theorem gE {e} (h : EvalW C k env e Q R ρ H) : EvalW C k env e Q R ρ H := h
theorem gName {x p} (h : EvalW C k env (.Name x p) Q R ρ H) : EvalW C k env (.Name x p) Q R ρ H := h
theorem gConst {x c p} (h : EvalW C k env (.Constant x c p) Q R ρ H) : EvalW C k env (.Constant x c p) Q R ρ H := h
theorem gCall {f a b p} (h : EvalW C k env (.Call f a b p) Q R ρ H) : EvalW C k env (.Call f a b p) Q R ρ H := h
theorem gT {e} (h : TestW C k env e QB R ρ H) : TestW C k env e QB R ρ H := h
theorem gS {e} (h : ExecW C k env e QS RS ρ H) : ExecW C k env e QS RS ρ H := h
theorem gX {e} (h : ExecsW C k env e QS RS ρ H) : ExecsW C k env e QS RS ρ H := h
theorem gA {e} (h : ArgsW C k env e QL R ρ H) : ArgsW C k env e QL R ρ H := h
theorem gB {o v w} (h : BinW C k o v w Q R H) : BinW C k o v w Q R H := h
theorem gC {o v w} (h : CmpW C k o v w Q R H) : CmpW C k o v w Q R H := h
end Mine

set_option Elab.async false
set_option linter.unusedVariables false
set_option maxRecDepth 100000
namespace Mine
open PySem PySem.W PyProof.Rows

section
variable {prog : Program} {w : World} {A : Around} {E : Value → Shared → Prop} {s : Shared}

end

variable {C : Cx} {k : Nat} {env : Env} {ρ : Rho} {H : Hp} {Q R : V → Hp → Prop}
end Mine

set_option Elab.async false
set_option linter.unusedVariables false
namespace Mine
open PySem PySem.W PyProof.Rows

variable {C : Cx} {k : Nat} {env : Env} {ρ : Rho} {H : Hp} {Q R : V → Hp → Prop}

end Mine

set_option Elab.async false
set_option linter.unusedVariables false
namespace Mine
open PySem PySem.W PyProof.Rows

variable {C : Cx} {k : Nat} {env : Env} {ρ : Rho} {H : Hp} {Q R : V → Hp → Prop}
end Mine

set_option Elab.async false
set_option linter.unusedVariables false
namespace Mine
open PySem

abbrev Wt := Option (Bool × List Nat)
def nv (n : Nat) : V := .int n
def ov : Option Nat → V
  | none => .none
  | some n => .int n
def wv : Wt → V
  | none => .none
  | some (b, l) => .tup [.str (Str.ofString (if b = true then "all" else "any")), .lst (l.map nv)]
def WOk (m : Nat) : Wt → Prop
  | none => True
  | some (_, l) => l ≠ [] ∧ l.Nodup ∧ (∀ x ∈ l, x < m) ∧ l.length ≤ 100

def cellV (ns : List Int) (i : Int) : Int := ns.getD i.toNat 0
/- ints in lists -/
theorem datL_nv (l : List Nat) : datL (l.map nv) = (l.map fun (n : Nat) => (n : Int)).map PyData.int := by
  induction l with
  | nil => rfl
  | cons x l ih => simp only [List.map_cons, datL, ih, nv, V.dat]
theorem pureL_nv (l : List Nat) : pureL (l.map nv) = true := by
  induction l with
  | nil => rfl
  | cons x l ih => simp only [List.map_cons, pureL, ih, nv, V.pure]; rfl
end Mine
namespace Mine
open PySem PySem.W PyProof.Rows
variable {C : Cx} {k : Nat} {env : Env} {ρ : Rho} {H : Hp} {Q R : V → Hp → Prop}

theorem okD_ints (l : List Int) : okD (.list (l.map .int)) = true := by
  have a : PyData.canLayAll0 (l.map .int) = true := by
    induction l with
    | nil => rfl
    | cons x l ih => simp only [List.map_cons, PyData.canLayAll0, PyData.canLay0, ih]; rfl
  have b : PyData.depthAll (l.map .int) ≤ 1 := by
    induction l with
    | nil => simp [PyData.depthAll]
    | cons x l ih =>
      simp only [List.map_cons, PyData.canLayAll0, PyData.canLay0, Bool.true_and] at a
      have := ih a
      simp only [List.map_cons, PyData.depthAll, PyData.depth]; omega
  unfold okD SeqAt.shaped
  simp only [PyData.canLay0, PyData.depth, a]
  simp; omega
theorem eqvAll_ints : ∀ l l' : List Int, PyData.eqvAll (l.map .int) (l'.map .int) = (l == l')
  | [], [] => rfl
  | [], _ :: _ => rfl
  | _ :: _, [] => rfl
  | x :: l, y :: l' => by
    simp only [List.map_cons, PyData.eqvAll, PyData.eqv, eqvAll_ints l l']; rfl
theorem see_of {v : V} {l : List V} (h : lview H v = some l) : see H v = .lst l := by
  cases v with
  | lst l' => cases h; rfl
  | ref a =>
    simp only [lview, see] at h ⊢
    split at h
    · rename_i e; cases h; first | rfl | rw [e]
    · cases h
  | _ => cases h
theorem ints_eq (l l' : List Nat) : ((l.map fun (n : Nat) => (n : Int)) == (l'.map fun (n : Nat) => (n : Int))) = (l == l') := by
  rw [Bool.eq_iff_iff, beq_iff_eq, beq_iff_eq]
  constructor
  · intro h
    exact (List.map_inj_right (fun x y e => Int.ofNat.inj e)).mp h
  · rintro rfl; rfl
theorem eqv_nv (l l' : List Nat) : PyData.eqv (.list (datL (l.map nv))) (.list (datL (l'.map nv))) = (l == l') := by
  rw [datL_nv, datL_nv, PyData.eqv, eqvAll_ints, ints_eq]
theorem CmpW.eqN {v w : V} {l l' : List Nat} (hv : lview H v = some (l.map nv)) (hw : lview H w = some (l'.map nv)) (h : Q (.bool (l == l')) H) : CmpW C k .Eq v w Q R H := by
  have e1 := see_of hv
  have e2 := see_of hw
  refine CmpW.eq ?_ ?_ ?_ ?_ ?_ <;> simp only [e1, e2, V.pure, V.dat, pureL_nv]
  · rw [datL_nv]; exact okD_ints _
  · rw [datL_nv]; exact okD_ints _
  · rw [eqv_nv]; exact h
theorem CmpW.neN {v w : V} {l l' : List Nat} (hv : lview H v = some (l.map nv)) (hw : lview H w = some (l'.map nv)) (h : Q (.bool (l != l')) H) : CmpW C k .NotEq v w Q R H := by
  have e1 := see_of hv
  have e2 := see_of hw
  refine CmpW.ne ?_ ?_ ?_ ?_ ?_ <;> simp only [e1, e2, V.pure, V.dat, pureL_nv]
  · rw [datL_nv]; exact okD_ints _
  · rw [datL_nv]; exact okD_ints _
  · rw [eqv_nv]; exact h
theorem countIn_nv (i : Int) (h0 : 0 ≤ i) (l : List Nat) : decide (PySem.Spec.countIn (.int i) (datL (l.map nv)) ≠ 0) = decide (i.toNat ∈ l) := by
  rw [datL_nv, countIn_ints_count]
  rw [decide_eq_decide]
  have : (List.count i (l.map fun (n : Nat) => (n : Int)) ≠ 0) ↔ i ∈ (l.map fun (n : Nat) => (n : Int)) := by
    rw [← List.count_pos_iff]; omega
  have h2 : i ∈ (l.map fun (n : Nat) => (n : Int)) ↔ i.toNat ∈ l := by
    rw [List.mem_map]
    constructor
    · rintro ⟨x, hx, rfl⟩; simpa using hx
    · intro h; exact ⟨_, h, by omega⟩
  rw [← h2, ← this]
  omega
theorem noMix_nv (i : Int) (l : List Nat) : ∀ y ∈ datL (l.map nv), SeqAt.noMix y (.int i) = true := by
  rw [datL_nv]
  intro y hy
  simp at hy
  obtain ⟨a, _, rfl⟩ := hy
  rfl
theorem CmpW.inN {w : V} {i : Int} {l : List Nat} (hw : lview H w = some (l.map nv)) (h0 : 0 ≤ i) (h : Q (.bool (decide (i.toNat ∈ l))) H) : CmpW C k .In (.int i) w Q R H := by
  refine CmpW.inList hw (pureL_nv l) rfl (by rw [datL_nv]; exact okD_ints _) rfl (noMix_nv i l) ?_
  rw [show (see H (.int i)).dat = PyData.int i from rfl, countIn_nv i h0]; exact h
theorem CmpW.notInN {w : V} {i : Int} {l : List Nat} (hw : lview H w = some (l.map nv)) (h0 : 0 ≤ i) (h : Q (.bool (!decide (i.toNat ∈ l))) H) : CmpW C k .NotIn (.int i) w Q R H := by
  refine CmpW.notInList hw (pureL_nv l) rfl (by rw [datL_nv]; exact okD_ints _) rfl (noMix_nv i l) ?_
  rw [show (see H (.int i)).dat = PyData.int i from rfl, countIn_nv i h0]; exact h
theorem lview_nv0 : lview H (.lst []) = some (([] : List Nat).map nv) := rfl
end Mine
namespace Mine
end Mine
namespace Mine
end Mine
namespace Mine
def gN (g : Nat → Option V) : V → Option V
  | .int i => g i.toNat
  | _ => none
theorem gN_nv (g : Nat → Option V) (n : Nat) : gN g (.int ((n : Nat) : Int)) = g n := by simp [gN]
theorem fm_gN (g : Nat → Option V) (l : List Nat) : (l.map nv).filterMap (gN g) = l.filterMap g := by
  rw [List.filterMap_map]
  congr 1
theorem rangeV_nv (n : Nat) : rangeV n = (List.range n).map nv := rfl
theorem fm_filter (p : Nat → Bool) (l : List Nat) : l.filterMap (fun n => if p n = true then some (nv n) else none) = (l.filter p).map nv := by
  induction l with
  | nil => rfl
  | cons x l ih =>
    rw [List.filterMap_cons, List.filter_cons]
    by_cases h : p x = true
    · simp only [h, if_true]; rw [ih]; rfl
    · simp only [h]; exact ih
theorem fm_map (f : Nat → V) (l : List Nat) : l.filterMap (fun n => some (f n)) = l.map f := by
  rw [List.filterMap_eq_map']
end Mine

set_option linter.unusedVariables false
namespace Mine

/- what the rounds say -/
end Mine

set_option linter.unusedVariables false
namespace Mine
open PySem PySem.W PyProof.Rows
variable {C : Cx} {k : Nat} {env : Env} {ρ : Rho} {H : Hp} {Q R : V → Hp → Prop} {QB : Bool → Hp → Prop} {QS : Fl → Rho → Hp → Prop} {RS : V → Rho → Hp → Prop}
/-- one statement, and what is known behind it -/
def SeqQ (X : List (Str × V) → Hp → Prop) (QS : Fl → Rho → Hp → Prop) : Fl → Rho → Hp → Prop
  | .next, ρ, H => ∃ l, X l H ∧ Rho.sat l ρ
  | .cont, ρ, H => QS .cont ρ H
  | .brk, ρ, H => QS .brk ρ H
  | .ret u, ρ, H => QS (.ret u) ρ H
theorem ExecsW.seq {st rest} (X : List (Str × V) → Hp → Prop) (h : ExecW C k env st (SeqQ X QS) RS ρ H) (h2 : ∀ l H', X l H' → ExecsW C k env rest QS RS (Rho.of l) H') : ExecsW C k env (st :: rest) QS RS ρ H := by
  refine ExecsW.cons ?_
  intro A a s S
  refine wpAny_mono (h A a s S) ?_ fun _ _ p => p
  rintro f s' ⟨fl, ρ', H', q, r, S', E⟩
  cases fl with
  | next => obtain ⟨l, x, hs⟩ := q; exact ⟨.next, Rho.of l, H', h2 l H' x, r, S'.weaken hs.le, E⟩
  | cont => exact ⟨.cont, ρ', H', q, r, S', E⟩
  | brk => exact ⟨.brk, ρ', H', q, r, S', E⟩
  | ret u => exact ⟨.ret u, ρ', H', q, r, S', E⟩
end Mine

set_option linter.unusedVariables false
namespace Mine
/- the laws' ways to make waits, with their numbers left open -/
def mixG (a b m : Int) (ns : List Int) (i j : Int) : Int := (cellV ns i * a + j * b) % m
theorem mixG_range (a b m : Int) (hm : 0 < m) (ns i j) : 0 ≤ mixG a b m ns i j ∧ mixG a b m ns i j < m := ⟨Int.emod_nonneg _ (by omega), Int.emod_lt_of_pos _ hm⟩
def moreG (c1 c2 n s f : Int) (k : Nat) : Nat := ((f + 1 + n / (c1 + c2 * (k : Int)) % s) % s).toNat
def othersG (d c1 c2 n s : Int) : Nat → List Nat
  | 0 => [(n / d % s).toNat]
  | k + 1 => let l := othersG d c1 c2 n s k; let m := moreG c1 c2 n s (n / d % s) k; if m ∈ l then l else l ++ [m]
theorem othersG_head (d c1 c2 n s : Int) : ∀ k, ∃ t, othersG d c1 c2 n s k = (n / d % s).toNat :: t
  | 0 => ⟨[], rfl⟩
  | k + 1 => by
    obtain ⟨t, e⟩ := othersG_head d c1 c2 n s k
    simp only [othersG]
    split
    · exact ⟨t, e⟩
    · rw [e]; exact ⟨t ++ [_], rfl⟩
theorem othersG_len (d c1 c2 n s : Int) : ∀ k, (othersG d c1 c2 n s k).length ≤ k + 1
  | 0 => by simp [othersG]
  | k + 1 => by
    have := othersG_len d c1 c2 n s k
    simp only [othersG]
    split
    · omega
    · simp; omega
theorem othersG_nodup (d c1 c2 n s : Int) : ∀ k, (othersG d c1 c2 n s k).Nodup
  | 0 => by simp [othersG]
  | k + 1 => by
    have := othersG_nodup d c1 c2 n s k
    simp only [othersG]
    split
    · exact this
    · rename_i h
      rw [List.nodup_append]
      refine ⟨this, by simp, ?_⟩
      intro a ha b hb
      simp at hb; subst hb
      intro q; subst q; exact h ha
theorem emod_toNat_lt (x : Int) (s : Nat) (hs : 0 < s) : (x % (s : Int)).toNat < s := by
  have := Int.emod_lt_of_pos x (b := (s : Int)) (by omega)
  have := Int.emod_nonneg x (b := (s : Int)) (by omega)
  omega
theorem othersG_lt (d c1 c2 n : Int) (s : Nat) (hs : 0 < s) : ∀ k, ∀ x ∈ othersG d c1 c2 n s k, x < s
  | 0 => by
    intro x hx
    simp [othersG] at hx; subst hx
    exact emod_toNat_lt _ s hs
  | k + 1 => by
    intro x hx
    simp only [othersG] at hx
    split at hx
    · exact othersG_lt d c1 c2 n s hs k x hx
    · rw [List.mem_append] at hx
      rcases hx with hx | hx
      · exact othersG_lt d c1 c2 n s hs k x hx
      · simp at hx; subst hx
        exact emod_toNat_lt _ s hs
theorem waitG_ok (b : Bool) (d c1 c2 n : Int) (s k : Nat) (hs : 0 < s) (hk : k ≤ 50) : WOk s (some (b, othersG d c1 c2 n s k)) := by
  refine ⟨?_, othersG_nodup .., othersG_lt d c1 c2 n s hs _, by have := othersG_len d c1 c2 n s k; omega⟩
  obtain ⟨t, e⟩ := othersG_head d c1 c2 n s k
  rw [e]; simp
end Mine

set_option linter.unusedVariables false
namespace Mine
open PySem PySem.W PyProof.Rows
variable {C : Cx} {k : Nat} {env : Env} {ρ : Rho} {H : Hp} {Q R : V → Hp → Prop}

def S_cell : SpecT := fun args Q R H => ∃ (ns : List Int) (i : Int), args = [.lst (ns.map .int), .int i] ∧ 0 ≤ i ∧ ns.length ≤ 100 ∧ Q (.int (cellV ns i)) H
def S_mixG (a b m : Int) : SpecT := fun args Q R H => ∃ (ns : List Int) (i j : Int), args = [.lst (ns.map .int), .int i, .int j] ∧ 0 ≤ i ∧ ns.length ≤ 100 ∧ Q (.int (mixG a b m ns i j)) H
def S_is_place : SpecT := fun args Q R H => ∃ (i m : Int), args = [.int i, .int m] ∧ Q (.bool (decide (0 ≤ i) && decide (i < m))) H
def S_is_wait : SpecT := fun args Q R H => ∃ (w : Wt) (m : Nat), args = [wv w, .int m] ∧ WOk m w ∧ Q (.bool true) H
def WsOk (W : List Wt) : Prop := 0 < W.length ∧ W.length ≤ 40 ∧ ∀ w ∈ W, WOk W.length w
def S_need : SpecT := fun args Q R H => ∃ W : List Wt, args = [.lst (W.map wv)] ∧ WsOk W ∧ Q (.bool true) H
theorem enum_get {W : List Wt} {i : Nat} {v : V} (h : (enumV (W.map wv))[i]? = some v) : ∃ w, W[i]? = some w ∧ w ∈ W ∧ v = .tup [.int ((i : Nat) : Int), wv w] := by
  rw [enumV, enumFrom_get, List.getElem?_map] at h
  cases hw : W[i]? with
  | none => rw [hw] at h; cases h
  | some w => rw [hw] at h; cases h; exact ⟨w, rfl, List.mem_of_getElem? hw, by simp⟩
theorem enumV_length {l : List V} : (enumV l).length = l.length := enumFrom_length

/- waits as data -/
theorem CmpW.eqB {a b : Bool} (h : Q (.bool (a == b)) H) : CmpW C k .Eq (.bool a) (.bool b) Q R H := CmpW.eq rfl rfl rfl rfl h
end Mine

set_option linter.unusedVariables false
namespace Mine

/- rounds, exactly -/
end Mine

set_option linter.unusedVariables false
namespace Mine
end Mine

set_option linter.unusedVariables false
namespace Mine
open PySem PySem.W PyProof.Rows
variable {C : Cx} {k : Nat} {env : Env} {ρ : Rho} {H : Hp} {Q R : V → Hp → Prop}

/-- list(xs) that nobody will change -/
theorem CallW.listCopyF {v : V} {l : List V} (hl : lview H v = some l) (hn : l.length ≤ 100000) (h : Q (.lst l) H) : CallW C k (.type "list") [v] Q R H := fun A a s xs S r => by
  refine wpAny_mono (CallW.listCopy (C := C) (k := k) (Q := fun v H' => ∃ a, v = .ref a ∧ H a = Option.none ∧ H' = H.set a (.list l)) (R := R) hl hn (fun a ha => ⟨a, rfl, ha, rfl⟩) A a s xs S r) ?_ fun _ _ p => p
  rintro x s' ⟨v', H', ⟨b, rfl, hb, rfl⟩, S', r', E'⟩
  obtain ⟨S3, r3⟩ := (fz_new (acc := l) hb).2 C s' x S' r'
  exact ⟨.lst l, H, h, S3, r3, ⟨E'.keep, fun c o e n => n, E'.live⟩⟩

/- lists of rounds -/
/- a whole turn of all hands -/
def backL (s : Nat) (c : Int) : List Nat := (List.range s).map fun (k : Nat) => (((s : Int) + c - (k : Int)) % (s : Int)).toNat
theorem backL_ok (b : Bool) (s : Nat) (c : Int) (hs : 0 < s) (hs' : s ≤ 100) : WOk s (some (b, backL s c)) := by
  refine ⟨?_, ?_, ?_, by simp [backL]; exact hs'⟩
  · intro h
    have := congrArg List.length h
    simp [backL] at this; omega
  · unfold backL
    rw [List.nodup_iff_pairwise_ne, List.pairwise_map]
    refine List.Pairwise.imp_of_mem ?_ (List.pairwise_lt_range (n := s))
    intro i j hi hj hij e
    have hi : i < s := by simpa using hi
    have hj : j < s := by simpa using hj
    have a1 := Int.emod_nonneg ((s : Int) + c - (i : Int)) (b := (s : Int)) (by omega)
    have a2 := Int.emod_nonneg ((s : Int) + c - (j : Int)) (b := (s : Int)) (by omega)
    have e : ((s : Int) + c - (i : Int)) % (s : Int) = ((s : Int) + c - (j : Int)) % (s : Int) := by omega
    have := Int.emod_emod_of_dvd
    have hd : ((s : Int) + c - (i : Int) - ((s : Int) + c - (j : Int))) % (s : Int) = 0 := Int.emod_eq_emod_iff_emod_sub_eq_zero.mp e
    have hd2 : ((j : Int) - (i : Int)) % (s : Int) = 0 := by
      rw [← hd]; congr 1; omega
    rw [Int.emod_eq_of_lt (by omega) (by omega)] at hd2
    omega
  · intro x hx
    simp only [backL, List.mem_map] at hx
    obtain ⟨k, _, rfl⟩ := hx
    exact emod_toNat_lt _ s hs
end Mine

set_option Elab.async false
set_option linter.unusedVariables false
namespace Mine
open PySem PySem.W PyProof.Rows

variable {C : Cx} {k : Nat} {K : Frag} {env : Env} {ρ : Rho} {H : Hp} {Q R : V → Hp → Prop} {QS : Fl → Rho → Hp → Prop} {RS : V → Rho → Hp → Prop}

/-- values that are handed out as they are -/
def V.plain : V → Bool
  | .con _ => false
  | _ => true
theorem VRel.handed {h : Heap} {H : Hp} {v : V} {x : Value} (r : VRel h H v x) (hv : v.plain = true) : handedIn x = true := by
  cases r <;> first | rfl | cases hv

theorem noRefKey {es : Array DictEntry} (hk : StrKeys es) : es.any (·.refKey) = false := by
  rw [Array.any_eq_false']; intro e he; obtain ⟨n, t, h⟩ := hk e he; simp [DictEntry.refKey, h]
theorem lookIn_ns {o : Obj} {es : Array DictEntry} {ep : Nat} {name : Str} (hd : o.data = .dict es ep) (hk : StrKeys es) : lookIn name o = some (nsFind es name) := by
  have h2 := noRefKey hk
  rw [← Array.any_toList] at h2
  unfold lookIn nsFind findBy
  rw [hd]
  dsimp only
  rw [← Array.find?_toList]
  cases hf : es.toList.find? (fun e => e.key.isStr name) with
  | some e => rfl
  | none => simp [h2]

theorem putName_ns {o : Obj} {es : Array DictEntry} {ep : Nat} (hd : o.data = .dict es ep) (hk : StrKeys es) (name : Str) (hash : Int) (t : Tok) (v : Value) :
    ∃ es' ep', (Obj.putName name hash (.str name t) v o).data = .dict es' ep' ∧ StrKeys es' ∧ (∀ x, nsFind es' x = if x = name then some v else nsFind es x) ∧ es'.size ≤ es.size + 1 ∧ ((nsFind es name).isSome = true → es'.size = es.size) := by
  obtain ⟨c, d, dt, sl⟩ := o
  simp only at hd
  subst hd
  cases hi : es.findIdx? (·.key.isStr name) with
  | some i =>
    refine ⟨_, ep, by simp only [Obj.putName_eq, Obj.putNameByArray, hi], hk.modify _ _, fun x => findBy_modify (fun n v => v.isStr n) Value.isStr_inj es name x v i hi, by simp, fun _ => by simp⟩
  | none =>
    refine ⟨_, ep + 1, by simp only [Obj.putName_eq, Obj.putNameByArray, hi]; rfl, hk.push _ _ _ _, fun x => findBy_push (fun n v => v.isStr n) es name x _ _ v (fun y => by
      show (name == y) = decide (y = name)
      by_cases h : y = name
      · subst h; simp
      · have : ¬ name = y := fun e => h e.symm
        simp [h, this]) hi, by simp, fun q => ?_⟩
    unfold nsFind findBy at q
    have : es.find? (fun e => e.key.isStr name) = Option.none := by
      rw [Array.find?_eq_none]; intro e he
      simpa using (Array.findIdx?_eq_none_iff.mp hi) e he
    rw [this] at q; cases q

structure ClsOk (K : Frag) (c : Addr) : Prop where
  get : findIn K (.ref c) "__getattribute__" = some (some (.builtin "object.__getattribute__"))
  set : findIn K (.ref c) "__setattr__" = some (some (.builtin "object.__setattr__"))
  hook : findIn K (.ref c) "__getattr__" = some none
  over : plainOver K c = true
  dict : (clsIn K c).any (·.hasDict) = true

theorem PCx.at (P : PCx C K) {s : Shared} (S : Sim C H s) : K.In s.heap := fun b o e => S.keep b o (P.X b o e)

theorem Sim.instAt {s : Shared} {a c d : Addr} {m : Str → Option V} {n : Nat} (S : Sim C H s) (ha : H a = some (.inst c d)) (hd : H d = some (.ns m n)) :
    ∃ od es ep, InstAt s.heap a { cls := .ref c, dict := some d, data := .plain } c (some od) ∧ s.heap.get? d = some od ∧ od.data = .dict es ep ∧ StrKeys es ∧ es.size ≤ n ∧ ∀ k, OptRel s.heap H (m k) (nsFind es k) := by
  have ra := S.objs _ _ ha
  obtain ⟨od, es, ep, e, hdat, hk, hz, hr⟩ := S.objs _ _ hd
  exact ⟨od, es, ep, ⟨ra, rfl, rfl, e⟩, e, hdat, hk, hz, hr⟩

def AttrW (C : Cx) (k : Nat) (v : V) (name : Str) (Q R : V → Hp → Prop) (H : Hp) : Prop :=
  ∀ A, Lv C k A → ∀ s x, Sim C H s → VRel s.heap H v x → wpAny C.M A (getAttr x name true) (Post C H s.heap VRel Q) (Post C H s.heap VRel R) s
theorem EvalW.attr {o name pos} (h : EvalW C k env o (fun v H₁ => AttrW C k v name Q R H₁) R ρ H)
    (he : eval (.Attribute o name pos) env = (do
      let x ← eval o env
      standAt pos.atName
      let r ← holding [x] (getAttr x name true)
      letTemporaryGo o x r
      pure r) := by with_unfolding_all rfl) : EvalW C k env (.Attribute o name pos) Q R ρ H := fun A a s S =>
  Attribute_any_ (wp_go (h A a s S) fun x v H₁ s₁ h₁ S₁ r₁ E₁ => wp_fin E₁ (h₁ A a s₁ x S₁ r₁)) he

theorem OptRel.get {h : Heap} {H : Hp} {v : V} {o : Option Value} (r : OptRel h H (some v) o) : ∃ u, o = some u ∧ VRel h H v u := by
  cases o with
  | none => exact r.elim
  | some u => exact ⟨u, rfl, r⟩
theorem OptRel.no {h : Heap} {H : Hp} {o : Option Value} (r : OptRel h H Option.none o) : o = Option.none := by
  cases o with
  | none => rfl
  | some u => exact r.elim

theorem AttrW.inst (P : PCx C K) {a c d : Addr} {m : Str → Option V} {n : Nat} {name : Str} {v : V} (hc : ClsOk K c) (ha : H a = some (.inst c d)) (hd : H d = some (.ns m n)) (hm : m name = some v)
    (hx : findIn K (.ref c) name = some none) (hv : v.plain = true) (h : Q v H) : AttrW C k (.ref a) name Q R H := fun A lv s x S r => by
  cases r
  obtain ⟨od, es, ep, I, e, hdat, hk, hz, hr⟩ := S.instAt ha hd
  have hu := hr name
  rw [hm] at hu
  obtain ⟨u, hf, hu⟩ := hu.get
  obtain ⟨cd, hcd, hh⟩ := any_some hc.dict
  have hfo : findObj K c (some od) name = some (.value u) := by
    unfold findObj
    rw [hcd, hx]
    simp only [Option.bind_some]
    unfold W.ownOf
    rw [hh]
    simp [lookIn_ns hdat hk, hf]
  exact get_value (P.at S) I hc.get hfo (hu.handed hv) (Post.here h (S.toks _) hu rfl)

def SetAttrW (C : Cx) (k : Nat) (v : V) (name : Str) (u : V) (Q : Hp → Prop) (R : V → Hp → Prop) (H : Hp) : Prop :=
  ∀ A, Lv C k A → ∀ s x z, Sim C H s → VRel s.heap H v x → VRel s.heap H u z → wpAny C.M A (setAttr x name z) (Post C H s.heap (fun _ _ (_ _ : Unit) => True) (fun _ H' => Q H')) (Post C H s.heap VRel R) s
theorem ExecW.assign_attr {o attr p' e p} (h : EvalW C k env e (fun u H₁ => EvalW C k env o (fun v H₂ => SetAttrW C k v attr u (fun H₃ => QS .next ρ H₃) (fun w H' => RS w ρ H') H₂) (fun w H' => RS w ρ H') ρ H₁) (fun w H' => RS w ρ H') ρ H)
    (hs : swapsWith e (some (.Attribute o attr p')) p.line env = pure false := by rfl) : ExecW C k env (.Assign [.Attribute o attr p'] e p) QS RS ρ H := fun A a s S => by
  refine plainObj_wpAny_Assign_Attribute (wp_go (h A a s S) (fun z u H₁ s₁ h₁ S₁ r₁ E₁ => ?_) fun _ _ p => p.toX S) hs
  refine wp_go (h₁ A a s₁ (S.ext S₁ E₁)) (fun x v H₂ s₂ h₂ S₂ r₂ E₂ => ?_) fun _ _ p => (p.after E₁).toX S
  refine wpAny_mono (h₂ A a s₂ x z S₂ r₂ (r₁.ext E₂)) ?_ fun _ _ p => (p.after (E₁.trans E₂)).toX S
  rintro _ s₄ ⟨_, H₄, q, S₄, _, E₄⟩
  have E := (E₁.trans E₂).trans E₄
  exact ⟨.next, ρ, H₄, q, trivial, S.ext S₄ E, E.toF⟩

theorem SetAttrW.gen (P : PCx C K) {a c d : Addr} {m : Str → Option V} {n n' : Nat} {name : Str} {u : V} {QH : Hp → Prop} (hc : ClsOk K c) (ha : H a = some (.inst c d)) (hd : H d = some (.ns m n))
    (hx : findIn K (.ref c) name = some none) (hn : n ≤ 900) (hn' : n + 1 ≤ n' ∨ (n ≤ n' ∧ (m name).isSome = true)) (h : QH (H.set d (.ns (Rho.set m name u) n'))) : SetAttrW C k (.ref a) name u QH R H := fun A lv s x z S r1 r2 => by
  cases r1
  obtain ⟨od, es, ep, I, e, hdat, hk, hz, hr⟩ := S.instAt ha hd
  have X := P.at S
  refine set_plain X I hc.set ?_
  refine osa_open (s := { s with toks := s.toks + 1 }) X I hc.over (r := none) (by unfold takerIn; rw [hx]; rfl) fun b => ?_
  obtain ⟨cd, hcd, hh⟩ := any_some hc.dict
  obtain ⟨hx1, hcl, hn1, -⟩ := I
  refine wpAny_bind (wpAny_pure (wpAny_bind (wpAny_bind (wpAny_loadPart hx1 (wpAny_bind (looks_clsIn X hcd _ _ _ _ (fun _ _ e => e) ?_))))))
  rw [hh]
  refine wpAny_pure (a := some d) (wpAny_bind (wpAny_pure (wpAny_bind ?_)))
  unfold nsSet
  refine wpAny_bind (wpAny_bind (wpAny_askSetting (wpAny_pure (wpAny_bind (wpAny_mkText (wpAny_bind (wpAny_loadPart e ?_)))))))
  rw [hdat]
  dsimp only
  rw [aRefKeyMayBeTheName_at, noRefKey hk, Bool.and_false]
  obtain ⟨es', ep', g1, g2, g3, g4, g5⟩ := putName_ns hdat hk name (PyData.keyHash C.w.params name) (s.toks + 1) z
  have e' : (s.heap.update d (Obj.putName name (PyData.keyHash C.w.params name) (.str name (s.toks + 1)) z)).get? d = some (Obj.putName name (PyData.keyHash C.w.params name) (.str name (s.toks + 1)) z od) := Heap.get?_update_self _ e (Obj.isFreed_of_dict g1)
  have hsb := Heap.SameBut.update s.heap d (Obj.putName name (PyData.keyHash C.w.params name) (.str name (s.toks + 1)) z)
  have hsz : es'.size ≤ n' := by
    rcases hn' with q | ⟨q1, q2⟩
    · omega
    · rw [g5 ?_]; · omega
      obtain ⟨w, hw⟩ := Option.isSome_iff_exists.mp q2
      have := hr name; rw [hw] at this
      obtain ⟨y, hy, _⟩ := this.get
      rw [hy]; rfl
  refine wpAny_updatePart e ?_
  refine wpAny_bind (wpAny_lookBehind e' (by rw [g1]; exact pastItsLine_dict (by rw [sizeLine_eq]; omega)) ?_)
  refine wpAny_pure ?_
  have hne : ∀ b, H b = none → b ≠ d := fun b e' q => by rw [q, hd] at e'; cases e'
  have E0 : ∀ o', ExtV H s.heap (H.set d o') (s.heap.update d (Obj.putName name (PyData.keyHash C.w.params name) (.str name (s.toks + 1)) z)) := fun o' b ob _ _ e _ n => ⟨(hsb.2 b (hne b n)).trans e, by unfold Hp.set; rw [if_neg (hne b n)]; exact n⟩
  obtain ⟨S', E'⟩ := S.update (s' := { s with heap := s.heap.update d (Obj.putName name (PyData.keyHash C.w.params name) (.str name (s.toks + 1)) z), toks := s.toks + 1 + 1 }) (o' := .ns (Rho.set m name u) n') hd hsb ⟨_, e'⟩ rfl rfl
    ⟨_, es', ep', e', g1, g2, hsz, fun x => by
      rw [g3]
      unfold Rho.set
      by_cases q : x = name
      · simp only [q, if_true]; exact r2.extV (E0 _)
      · simp only [q, if_false]; exact (hr x).extV (E0 _)⟩
  exact ⟨(), _, h, S', trivial, E'⟩

/-- lists of names: a store replaces in place -/
def putL : List (Str × V) → Str → V → List (Str × V)
  | [], x, v => [(x, v)]
  | (y, w) :: l, x, v => if y = x then (y, v) :: l else (y, w) :: putL l x v
theorem of_putL : ∀ (l : List (Str × V)) (x : Str) (v : V), Rho.set (Rho.of l) x v = Rho.of (putL l x v)
  | [], x, v => rfl
  | (y, w) :: l, x, v => by
    unfold putL
    split
    · rename_i q; subst q
      funext z; simp only [Rho.of, Rho.set]; split <;> rfl
    · rename_i q
      show Rho.set (Rho.set (Rho.of l) y w) x v = Rho.set (Rho.of (putL l x v)) y w
      rw [← of_putL l x v]
      funext z; simp only [Rho.set]
      by_cases h1 : z = x
      · subst h1; have : ¬ z = y := fun e => q e.symm
        simp [this]
      · simp [h1]
theorem SetAttrW.inst (P : PCx C K) {a c d : Addr} {l : List (Str × V)} {n : Nat} {name : Str} {u : V} {QH : Hp → Prop} (hc : ClsOk K c) (ha : H a = some (.inst c d)) (hd : H d = some (.ns (Rho.of l) n))
    (hx : findIn K (.ref c) name = some none) (hn : n ≤ 900) (hl : (Rho.of l name).isSome = true) (h : QH (H.set d (.ns (Rho.of (putL l name u)) n))) : SetAttrW C k (.ref a) name u QH R H :=
  SetAttrW.gen P (n' := n) hc ha hd hx hn (.inr ⟨Nat.le_refl _, hl⟩) (by rw [of_putL]; exact h)
theorem SetAttrW.new (P : PCx C K) {a c d : Addr} {l : List (Str × V)} {n : Nat} {name : Str} {u : V} {QH : Hp → Prop} (hc : ClsOk K c) (ha : H a = some (.inst c d)) (hd : H d = some (.ns (Rho.of l) n))
    (hx : findIn K (.ref c) name = some none) (hn : n ≤ 900) (h : QH (H.set d (.ns (Rho.of (putL l name u)) (n + 1)))) : SetAttrW C k (.ref a) name u QH R H :=
  SetAttrW.gen P (n' := n + 1) hc ha hd hx hn (.inl (Nat.le_refl _)) (by rw [of_putL]; exact h)

/-- own methods -/
theorem MethIs.own (P : PCx C K) {a c d f : Addr} {m : Str → Option V} {n : Nat} {name : Str} (hc : ClsOk K c) (ha : H a = some (.inst c d)) (hd : H d = some (.ns m n)) (hm : m name = none)
    (hf : findIn K (.ref c) name = some (some (.ref f))) (ht : typeIn K (.ref f) = some (.type "function")) : MethIs C H (.ref a) name (.ref f) := by
  intro A s x pl Q E S r hq
  cases r
  obtain ⟨od, es, ep, I, e, hdat, hk, hz, hr⟩ := S.instAt ha hd
  have hu := hr name
  rw [hm] at hu
  exact method_fn (P.at S) I hc.get hc.hook hf ht (by unfold shadowIn; simp [lookIn_ns hdat hk, hu.no]) hq

/-- a class is called -/
theorem Plainly.cls (P : PCx C K) {c : Addr} (hk : keepIn K (.ref c) = true) : Plainly C (.ref c) := fun A E Q s first pos args hp h =>
  callWith_of (P := fun h => K.In h) (by rw [hp]; rfl) (keeps_K hk) (evalArgs_any hp (wpAny_mono h (fun vs s₁ x => ⟨fun b o e => x.1 b o (P.X b o e), x.2⟩) fun _ _ x => x))

theorem under_typeCall (A : Around) (c : Addr) (rest : List Value) (kw : List (Str × Value)) : (Code.builtin "type.__call__" ⟨.ref c :: rest, kw⟩).weight = 1 ∧ (Code.builtin "type.__call__" ⟨.ref c :: rest, kw⟩).cUnits = 1 := ⟨by with_unfolding_all rfl, by with_unfolding_all rfl⟩
theorem CallW.make (P : PCx C K) {c fI : Addr} {Sp : SpecT} {args : List V} (hm : makesIn K c = true) (hi : findIn K (.ref c) "__init__" = some (some (.ref fI))) (hf : typeIn K (.ref fI) = some (.type "function")) (init : FnOK C k (.ref fI) Sp)
    (h : ∀ x d, H x = none → H d = none → x ≠ d → Sp (.ref x :: args) (fun v H' => v = .none ∧ Q (.ref x) H') R ((H.set d (.ns (Rho.of []) 0)).set x (.inst c d))) : CallW C (k + 1) (.ref c) args Q R H := fun A lv s xs S r => by
  have X := P.at S
  obtain ⟨hh, g, dr, t, os⟩ := s
  refine wpAny_call ?_
  refine make_core (makes_of X hm) (looks_findIn X hi) (fun self => bind_fn X self hf) (.inl rfl) ?_
  have k1 : ∀ b o, hh.get? b = some o → (hh.push emptyDict).get? b = some o := fun b o e => Heap.get?_push_of_some _ e
  have k2 : ∀ b o, (hh.push emptyDict).get? b = some o → ((hh.push emptyDict).push (instObj c hh.objs.size)).get? b = some o := fun b o e => Heap.get?_push_of_some _ e
  obtain ⟨S1, E1⟩ := S.alloc (s' := ⟨hh.push emptyDict, g, dr, t, os⟩) (o := .ns (Rho.of []) 0) k1 rfl rfl
    ⟨emptyDict, #[], 0, Heap.get?_push_size _ rfl, rfl, fun _ he => by simp at he, Nat.le_refl _, fun _ => trivial⟩
  have hz : (hh.push emptyDict).objs.size = hh.objs.size + 1 := Heap.size_push ..
  obtain ⟨S2, E2⟩ := S1.alloc (s' := ⟨(hh.push emptyDict).push (instObj c hh.objs.size), g, dr, t, os⟩) (o := .inst c hh.objs.size) k2 rfl rfl (Heap.get?_push_size _ rfl)
  have f1 : H hh.objs.size = none := S.fresh (Nat.le_refl _)
  have f2 : H (hh.objs.size + 1) = none := S.fresh (Nat.le_succ _)
  dsimp only at S1 E1 S2 E2
  rw [hz] at S2 E2
  obtain ⟨w1, w2⟩ := under_typeCall A c xs []
  have lv' : Lv C k (A.under (.builtin "type.__call__" ⟨.ref c :: xs, []⟩)) :=
    ⟨fun e => lv.handled e, by have := lv.depth; show A.depth + Code.weight _ + 2 * k + 100 < _; rw [w1]; omega, by have := lv.units; show A.units + Code.cUnits _ + 40 * k + 100 < _; rw [w2]; omega⟩
  refine codeAny_mono (init _ lv' _ _ (.ref (hh.objs.size + 1) :: args) (.ref (hh.objs.size + 1) :: xs) _ _ S2 (.cons (.ref _) (r.ext (E1.trans E2))) (h (hh.objs.size + 1) hh.objs.size f2 f1 (Nat.succ_ne_self _))) fun r s' z => ?_
  rcases r with e | (_ | _ | _ | v)
  · exact Post.after (E1.trans E2) z
  · exact z.elim
  · exact z.elim
  · exact z.elim
  · obtain ⟨v', H', ⟨hv, q⟩, S', rv, E'⟩ := z
    subst hv
    have : v = .none := by cases rv; rfl
    refine ⟨this, ?_⟩
    exact ⟨_, H', q, S', .ref _, (E1.trans E2).trans E'⟩

/-- several names out of a tuple -/
theorem ExecW.assign_tuple {es n p' e p xs} (hst : StA env es xs) (hd : C.hd = true)
    (h : EvalW C k env e (fun v H' => ∃ vs, v = .tup vs ∧ vs.length = xs.length ∧ QS .next (setAll ρ xs vs) H') (fun v H' => RS v ρ H') ρ H)
    (hs : swapsWithSole [.Tuple es n p'] e p.line env = pure false := by rfl) (hw : swappedStores [.Tuple es n p'] e env = pure none := by rfl) : ExecW C k env (.Assign [.Tuple es n p'] e p) QS RS ρ H := fun A a s S => by
  refine Assign_Tuple (wpAny_mono (h A a s S) ?_ fun _ _ p => p.toX S) hs hw
  rintro u s' ⟨v, H', ⟨vs, rfl, hl, q⟩, S', r, E⟩
  exact AssignW.tuple (Q := fun ρ' => QS .next ρ' H') hst hl hd q A a s' u (S.ext S' E) r _ _ (fun ρ' s'' q' S'' E'' => ⟨.next, ρ', H', q', trivial, S'', E.toF.trans E''⟩)

end Mine

set_option Elab.async false
set_option linter.unusedVariables false
namespace Mine
open PySem PySem.W PyProof.Rows

variable {C : Cx} {k : Nat} {K : Frag} {env : Env} {ρ : Rho} {H : Hp} {Q R : V → Hp → Prop} {QS : Fl → Rho → Hp → Prop} {RS : V → Rho → Hp → Prop}

/- list methods that change the list -/
theorem listUpd {s : Shared} {a : Addr} {l l' : List V} {xs : Array Value} {n : Nat} {f : Array Value → Array Value} (S : Sim C H s) (ha : H a = some (.list l)) (ho : s.heap.get? a = some { cls := .type "list", data := .seq xs n })
    (hr : ∀ h' H', ExtV H s.heap H' h' → VRelL h' H' l' (f xs).toList) : Sim C (H.set a (.list l')) { s with heap := s.heap.update a (Obj.mapSeq f) } ∧ Ext H s.heap (H.set a (.list l')) (s.heap.update a (Obj.mapSeq f)) := by
  obtain ⟨n', e1⟩ : ∃ n', Obj.mapSeq f { cls := .type "list", data := .seq xs n } = { cls := .type "list", data := .seq (f xs) n' } := ⟨_, rfl⟩
  have hs := Heap.SameBut.update s.heap a (Obj.mapSeq f)
  have hl' : (s.heap.update a (Obj.mapSeq f)).PlainList a (f xs) := ⟨n', by rw [Heap.get?_update_self _ ho (by rw [e1]; rfl), e1]⟩
  generalize s.heap.update a (Obj.mapSeq f) = h' at hs hl'
  have hex : ∃ ob, h'.get? a = some ob := let ⟨_, e⟩ := hl'; ⟨_, e⟩
  have hne : ∀ b, H b = none → b ≠ a := fun b e q => by subst q; rw [ha] at e; cases e
  have E0 : ExtV H s.heap (H.set a (.list l')) h' := fun b ob _ _ e _ n => ⟨(hs.2 b (hne b n)).trans e, by unfold Hp.set; rw [if_neg (hne b n)]; exact n⟩
  exact S.update (s' := { s with heap := h' }) (o' := .list l') ha hs hex rfl rfl ⟨_, hl', hr _ _ E0⟩

theorem MethIs.extend {a : Addr} {l : List V} (ha : H a = some (.list l)) : MethIs C H (.ref a) "extend" (.builtin "list.extend") := MethIs.list ha F.slot_list_extend F.type_list_extend
theorem MethIs.pop {a : Addr} {l : List V} (ha : H a = some (.list l)) : MethIs C H (.ref a) "pop" (.builtin "list.pop") := MethIs.list ha F.slot_list_pop F.type_list_pop
theorem VRelL.eraseIdx {h : Heap} {H : Hp} : ∀ {l : List V} {xs : List Value} (i : Nat), VRelL h H l xs → VRelL h H (l.eraseIdx i) (xs.eraseIdx i)
  | _, _, i, .nil => .nil
  | _, _, 0, .cons hv hl => hl
  | _, _, i + 1, .cons hv hl => .cons hv (hl.eraseIdx i)

theorem CallW.extend {a b : Addr} {l l2 : List V} (ha : H a = some (.list l)) (hb : H b = some (.list l2)) (hn : l.length + l2.length ≤ 50000) (h : Q .none (H.set a (.list (l ++ l2)))) : CallW C k (.builtin "list.extend") [.ref a, .ref b] Q R H := fun A lv s xs S r => by
  cases r with
  | cons r1 r' => cases r' with
    | cons r2 r' =>
      cases r'; cases r1; cases r2
      obtain ⟨xs, ⟨n, ho⟩, rl⟩ := S.objs _ _ ha
      obtain ⟨ys, ⟨n2, ho2⟩, rl2⟩ := S.objs _ _ hb
      have hz : xs.size = l.length := by have := rl.length; simpa using this
      have hz2 : ys.size = l2.length := by have := rl2.length; simpa using this
      have hs := sizeLine_eq
      obtain ⟨S', E'⟩ := listUpd (l' := l ++ l2) (f := fun x => x ++ ys) S ha ho fun h' H' E => by simpa using (rl.extV E).append (rl2.extV E)
      refine call_meets F.slot_list_extend ⟨_, ho, rfl⟩ F.entry_list_extend (F.args_list_extend_2 _ _) (AutoSeq1.list_extend_list_list_0 a xs n b ys n2 ?_ (by omega) (by omega)) ⟨ho, ho2, ?_⟩
      · have : Builtin.List.listTooLong (xs.size + ys.size) = false := by
          unfold Builtin.List.listTooLong; simp; omega
        simp [this]
      · exact ⟨.none, _, h, S', .none, E'⟩
theorem seqIndex_at {i : Int} {n : Nat} (h0 : 0 ≤ i) (hi : i.toNat < n) : seqIndex? i n = some i.toNat := by
  unfold seqIndex?
  have : ¬ i < 0 := by omega
  simp [this, hi]; omega
theorem CallW.popAt {a : Addr} {l : List V} {i : Int} {u : V} (ha : H a = some (.list l)) (h0 : 0 ≤ i) (hi : i < 2 ^ 62) (hx : l[i.toNat]? = some u) (hn : l.length ≤ 50000) (h : Q u (H.set a (.list (l.eraseIdx i.toNat)))) : CallW C k (.builtin "list.pop") [.ref a, .int i] Q R H := fun A lv s xs S r => by
  cases r with
  | cons r1 r' => cases r' with
    | cons r2 r' =>
      cases r'; cases r1; cases r2
      obtain ⟨xs, ⟨n, ho⟩, rl⟩ := S.objs _ _ ha
      have hz : xs.size = l.length := by have := rl.length; simpa using this
      have hs := sizeLine_eq
      have hlt : i.toNat < l.length := (List.getElem?_eq_some_iff.mp hx).1
      obtain ⟨z, ez, rz⟩ := rl.get hx
      obtain ⟨S', E'⟩ := listUpd (l' := l.eraseIdx i.toNat) (f := fun x => x.eraseIdxIfInBounds i.toNat) S ha ho fun h' H' E => by
        have : (xs.eraseIdxIfInBounds i.toNat).toList = xs.toList.eraseIdx i.toNat := by
          unfold Array.eraseIdxIfInBounds
          have : i.toNat < xs.size := by omega
          simp [this]
        rw [this]
        exact (rl.extV E).eraseIdx _
      refine call_meets F.slot_list_pop ⟨_, ho, rfl⟩ F.entry_list_pop (F.args_list_pop_2 _ _) (MeetsSeq.list_pop_at a xs n i _ i.toNat z ?_ (seqIndex_at h0 (by omega)) (by simpa using ez) (by omega)) ⟨ho, ?_⟩
      · unfold Builtin.List.listFitsIndex; simp; omega
      · exact ⟨u, _, h, S', (rz.extV E'.v), E'⟩
theorem CallW.popLast {a : Addr} {l : List V} {u : V} (ha : H a = some (.list l)) (hx : l[l.length - 1]? = some u) (hn : l.length ≤ 50000) (h : Q u (H.set a (.list (l.eraseIdx (l.length - 1))))) : CallW C k (.builtin "list.pop") [.ref a] Q R H := fun A lv s xs S r => by
  cases r with
  | cons r1 r' =>
      cases r'; cases r1
      obtain ⟨xs, ⟨n, ho⟩, rl⟩ := S.objs _ _ ha
      have hz : xs.size = l.length := by have := rl.length; simpa using this
      have hs := sizeLine_eq
      have hlt : l.length - 1 < l.length := (List.getElem?_eq_some_iff.mp hx).1
      obtain ⟨z, ez, rz⟩ := rl.get hx
      obtain ⟨S', E'⟩ := listUpd (l' := l.eraseIdx (l.length - 1)) (f := fun x => x.eraseIdxIfInBounds (xs.size - 1)) S ha ho fun h' H' E => by
        have : (xs.eraseIdxIfInBounds (xs.size - 1)).toList = xs.toList.eraseIdx (xs.size - 1) := by
          unfold Array.eraseIdxIfInBounds
          have : xs.size - 1 < xs.size := by omega
          rw [dif_pos this]
          simp
        rw [this, hz]
        exact (rl.extV E).eraseIdx _
      refine call_meets F.slot_list_pop ⟨_, ho, rfl⟩ F.entry_list_pop (F.args_list_pop_1 _) (MeetsSeq.list_pop_last a xs n z (by rw [hz]; simpa using ez) (by omega)) ⟨ho, ?_⟩
      exact ⟨u, _, h, S', (rz.extV E'.v), E'⟩
/- dicts with str keys -/
/- a display with str keys -/
/- update -/
end Mine

set_option Elab.async false
set_option linter.unusedVariables false
namespace Mine

inductive LW where
  | ask | freed | back
  deriving DecidableEq
abbrev Lt := LW × Nat × Nat

structure HandM where
  num : Nat
  asker : Bool
  wait : Option (Bool × List Nat)
  freed : Bool
  has : Bool
  askers : List Nat
  heard : List Nat
  owed : Int
  waker : Option Nat
def HandM.others (m : HandM) : List Nat := match m.wait with
  | none => []
  | some (_, l) => l
def HandM.isAll (m : HandM) : Bool := match m.wait with
  | some (true, _) => true
  | _ => false
def initM (num : Nat) (w : Option (Bool × List Nat)) (b : Bool) : HandM := ⟨num, b, w, w.isNone, false, [], [], 0, none⟩
def sendM (m : HandM) (w : LW) (l : List Nat) : HandM × List Lt := ({ m with owed := m.owed + l.length }, l.map fun x => (w, m.num, x))
def beginM (m : HandM) : HandM × List Lt := if m.freed = true then (m, []) else sendM { m with has := true } .ask m.others
def askedM (m : HandM) (s : Nat) : HandM × List Lt :=
  if m.freed = true then sendM m .freed [s] else if m.has = true then ({ m with askers := m.askers ++ [s] }, []) else beginM { m with askers := m.askers ++ [s] }
def toldM (m : HandM) (s : Nat) : HandM × List Lt :=
  if m.freed = true then ({ m with heard := s :: m.heard }, [])
  else if m.isAll && !(m.others.all fun o => decide (o ∈ s :: m.heard)) then ({ m with heard := s :: m.heard }, [])
  else sendM { m with heard := s :: m.heard, freed := true } .freed m.askers
def wakeM (m : HandM) (w : LW) (s : Nat) : HandM × List Lt :=
  if w = .back then ({ m with owed := m.owed - 1 }, []) else if m.asker || m.waker.isSome then (m, [(.back, m.num, s)]) else ({ m with waker := some s }, [])
def midM (m : HandM) (w : LW) (s : Nat) : HandM × List Lt := match w with
  | .ask => askedM m s
  | .freed => toldM m s
  | .back => (m, [])
def endM (m : HandM) (fl : List Lt) : HandM × List Lt := match m.waker with
  | some u => if m.owed = 0 then ({ m with waker := none }, fl ++ [(.back, m.num, u)]) else (m, fl)
  | none => (m, fl)
def comeM (m : HandM) (w : LW) (s : Nat) : HandM × List Lt :=
  endM (midM (wakeM m w s).1 w s).1 ((wakeM m w s).2 ++ (midM (wakeM m w s).1 w s).2)

structure NetM where
  hands : Nat → HandM
  row : List Lt
  many : Nat
def upd {α : Type} (f : Nat → α) (i : Nat) (x : α) : Nat → α := fun j => if j = i then x else f j
def startM (W : List (Option (Bool × List Nat))) (asker : Nat) : Nat → HandM := fun k => initM k (W.getD k none) (decide (k = asker))
def netM (W : List (Option (Bool × List Nat))) (asker : Nat) : NetM :=
  let p := beginM (startM W asker asker)
  ⟨upd (startM W asker) asker p.1, p.2, p.2.length⟩
def bringM (N : NetM) (p : Nat) : NetM × List Lt := match N.row[p]? with
  | none => (N, [])
  | some (w, s, r) =>
    let q := comeM (N.hands r) w s
    (⟨upd N.hands r q.1, N.row.eraseIdx p ++ q.2, N.many + q.2.length⟩, q.2)

/- what stays in a hand -/
structure Same (m m' : HandM) : Prop where
  num : m'.num = m.num
  asker : m'.asker = m.asker
  wait : m'.wait = m.wait
theorem Same.refl (m : HandM) : Same m m := ⟨rfl, rfl, rfl⟩
theorem Same.trans {a b c : HandM} (x : Same a b) (y : Same b c) : Same a c := ⟨y.num.trans x.num, y.asker.trans x.asker, y.wait.trans x.wait⟩
theorem begin_same (m) : Same m (beginM m).1 := by unfold beginM; split <;> exact ⟨rfl, rfl, rfl⟩
theorem asked_same (m s) : Same m (askedM m s).1 := by
  unfold askedM; split
  · exact ⟨rfl, rfl, rfl⟩
  · split
    · exact ⟨rfl, rfl, rfl⟩
    · have := begin_same { m with askers := m.askers ++ [s] }; exact ⟨this.num, this.asker, this.wait⟩
theorem told_same (m s) : Same m (toldM m s).1 := by
  unfold toldM; split
  · exact ⟨rfl, rfl, rfl⟩
  · split <;> exact ⟨rfl, rfl, rfl⟩
theorem wake_same (m w s) : Same m (wakeM m w s).1 := by
  unfold wakeM; split
  · exact ⟨rfl, rfl, rfl⟩
  · split <;> exact ⟨rfl, rfl, rfl⟩
theorem mid_same (m w s) : Same m (midM m w s).1 := by
  cases w
  · exact asked_same m s
  · exact told_same m s
  · exact .refl m
theorem end_same (m fl) : Same m (endM m fl).1 := by
  unfold endM; split
  · split <;> exact ⟨rfl, rfl, rfl⟩
  · exact .refl m
theorem come_same (m w s) : Same m (comeM m w s).1 := ((wake_same m w s).trans (mid_same _ w s)).trans (end_same _ _)
theorem Same.others {m m' : HandM} (h : Same m m') : m'.others = m.others := by unfold HandM.others; rw [h.wait]

/- sizes -/
theorem begin_sizes (m) : (beginM m).1.askers = m.askers ∧ (beginM m).1.heard = m.heard ∧ (beginM m).2.length ≤ m.others.length := by
  unfold beginM; split
  · exact ⟨rfl, rfl, Nat.zero_le _⟩
  · exact ⟨rfl, rfl, by simp [sendM]⟩
theorem mid_sizes (m w s) : (midM m w s).1.askers.length ≤ m.askers.length + 1 ∧ (midM m w s).1.heard.length ≤ m.heard.length + 1 ∧ (midM m w s).2.length ≤ m.others.length + m.askers.length + 1 := by
  cases w
  · show (askedM m s).1.askers.length ≤ _ ∧ (askedM m s).1.heard.length ≤ _ ∧ (askedM m s).2.length ≤ _
    unfold askedM; split
    · exact ⟨Nat.le_succ _, Nat.le_succ _, by simp [sendM]⟩
    · split
      · exact ⟨by simp, Nat.le_succ _, Nat.zero_le _⟩
      · have := begin_sizes { m with askers := m.askers ++ [s] }
        refine ⟨by rw [this.1]; simp, by rw [this.2.1]; exact Nat.le_succ _, ?_⟩
        have h := this.2.2
        show _ ≤ _
        have e : HandM.others { m with askers := m.askers ++ [s] } = m.others := rfl
        rw [e] at h; omega
  · show (toldM m s).1.askers.length ≤ _ ∧ (toldM m s).1.heard.length ≤ _ ∧ (toldM m s).2.length ≤ _
    unfold toldM; split
    · exact ⟨Nat.le_succ _, by simp, Nat.zero_le _⟩
    · split
      · exact ⟨Nat.le_succ _, by simp, Nat.zero_le _⟩
      · exact ⟨Nat.le_succ _, by simp [sendM], by simp [sendM]; omega⟩
  · exact ⟨Nat.le_succ _, Nat.le_succ _, Nat.zero_le _⟩
theorem wake_sizes (m w s) : (wakeM m w s).1.askers = m.askers ∧ (wakeM m w s).1.heard = m.heard ∧ (wakeM m w s).2.length ≤ 1 := by
  unfold wakeM; split
  · exact ⟨rfl, rfl, Nat.zero_le _⟩
  · split
    · exact ⟨rfl, rfl, Nat.le_refl _⟩
    · exact ⟨rfl, rfl, Nat.zero_le _⟩
theorem end_sizes (m fl) : (endM m fl).1.askers = m.askers ∧ (endM m fl).1.heard = m.heard ∧ (endM m fl).2.length ≤ fl.length + 1 := by
  unfold endM; split
  · split
    · exact ⟨rfl, rfl, by simp⟩
    · exact ⟨rfl, rfl, Nat.le_succ _⟩
  · exact ⟨rfl, rfl, Nat.le_succ _⟩
theorem come_sizes (m w s) : (comeM m w s).1.askers.length ≤ m.askers.length + 1 ∧ (comeM m w s).1.heard.length ≤ m.heard.length + 1 ∧ (comeM m w s).2.length ≤ m.others.length + m.askers.length + 3 := by
  unfold comeM
  obtain ⟨a1, a2, a3⟩ := wake_sizes m w s
  obtain ⟨b1, b2, b3⟩ := mid_sizes (wakeM m w s).1 w s
  obtain ⟨c1, c2, c3⟩ := end_sizes (midM (wakeM m w s).1 w s).1 ((wakeM m w s).2 ++ (midM (wakeM m w s).1 w s).2)
  rw [a1] at b1 b3
  rw [a2] at b2
  have e := (wake_same m w s).others
  rw [e] at b3
  refine ⟨by rw [c1]; exact b1, by rw [c2]; exact b2, ?_⟩
  rw [List.length_append] at c3
  omega

/- the letters that leave -/
theorem begin_out {m t} (h : t ∈ (beginM m).2) : t.2.1 = m.num ∧ t.1 = .ask ∧ t.2.2 ∈ m.others := by
  unfold beginM at h; split at h
  · cases h
  · simp only [sendM, List.mem_map] at h
    obtain ⟨x, hx, rfl⟩ := h
    exact ⟨rfl, rfl, hx⟩
theorem mid_out {m w s t} (h : t ∈ (midM m w s).2) : t.2.1 = m.num ∧ t.1 ≠ .back ∧ (t.2.2 = s ∨ t.2.2 ∈ m.others ∨ t.2.2 ∈ m.askers) := by
  cases w
  · change t ∈ (askedM m s).2 at h
    unfold askedM at h; split at h
    · simp [sendM] at h; subst h; exact ⟨rfl, by simp, .inl rfl⟩
    · split at h
      · cases h
      · obtain ⟨a, b, c⟩ := begin_out h
        exact ⟨a, by rw [b]; simp, .inr (.inl c)⟩
  · change t ∈ (toldM m s).2 at h
    unfold toldM at h; split at h
    · cases h
    · split at h
      · cases h
      · simp only [sendM, List.mem_map] at h
        obtain ⟨x, hx, rfl⟩ := h
        exact ⟨rfl, by simp, .inr (.inr hx)⟩
  · cases h
theorem mid_askers {m w s x} (h : x ∈ (midM m w s).1.askers) : x = s ∨ x ∈ m.askers := by
  cases w
  · change x ∈ (askedM m s).1.askers at h
    unfold askedM at h; split at h
    · exact .inr h
    · split at h
      · simp at h; exact h.symm
      · rw [(begin_sizes _).1] at h; simp at h; exact h.symm
  · change x ∈ (toldM m s).1.askers at h
    unfold toldM at h; split at h
    · exact .inr h
    · split at h <;> exact .inr h
  · exact .inr h
theorem mid_waker (m w s) : (midM m w s).1.waker = m.waker := by
  cases w
  · show (askedM m s).1.waker = _
    unfold askedM; split
    · rfl
    · split
      · rfl
      · unfold beginM; split <;> rfl
  · show (toldM m s).1.waker = _
    unfold toldM; split
    · rfl
    · split <;> rfl
  · rfl
theorem wake_out {m w s t} (h : t ∈ (wakeM m w s).2) : t = (.back, m.num, s) ∧ w ≠ .back := by
  unfold wakeM at h; split at h
  · cases h
  · rename_i hw
    split at h
    · simp at h; exact ⟨h, hw⟩
    · cases h
theorem wake_waker {m w s u} (h : (wakeM m w s).1.waker = some u) : m.waker = some u ∨ (u = s ∧ w ≠ .back ∧ m.asker = false ∧ m.waker = none) := by
  unfold wakeM at h; split at h
  · exact .inl h
  · rename_i hw
    split at h
    · exact .inl h
    · rename_i h2
      simp only [Bool.or_eq_true, not_or, Bool.not_eq_true, Option.isSome_eq_false_iff, Option.isNone_iff_eq_none] at h2
      simp at h
      exact .inr ⟨h.symm, hw, h2.1, h2.2⟩
theorem end_out {m fl t} (h : t ∈ (endM m fl).2) : t ∈ fl ∨ ∃ u, m.waker = some u ∧ t = (.back, m.num, u) := by
  unfold endM at h; split at h
  · rename_i u hu
    split at h
    · rcases List.mem_append.mp h with q | q
      · exact .inl q
      · simp at q; exact .inr ⟨u, hu, q⟩
    · exact .inl h
  · exact .inl h
theorem come_out {m w s t} (h : t ∈ (comeM m w s).2) : t.2.1 = m.num ∧ (t.2.2 = s ∨ t.2.2 ∈ m.others ∨ t.2.2 ∈ m.askers ∨ m.waker = some t.2.2) := by
  unfold comeM at h
  rcases end_out h with q | ⟨u, hu, rfl⟩
  · rcases List.mem_append.mp q with q | q
    · rw [(wake_out q).1]; exact ⟨rfl, .inl rfl⟩
    · obtain ⟨a, b, c⟩ := mid_out q
      rw [(wake_same m w s).num] at a
      rw [(wake_same m w s).others, (wake_sizes m w s).1] at c
      exact ⟨a, by rcases c with c | c | c <;> simp [c]⟩
  · rw [mid_waker] at hu
    refine ⟨by rw [(mid_same _ w s).num, (wake_same m w s).num], ?_⟩
    rcases wake_waker hu with q | ⟨rfl, _⟩
    · exact .inr (.inr (.inr q))
    · exact .inl rfl
theorem come_askers {m w s x} (h : x ∈ (comeM m w s).1.askers) : x = s ∨ x ∈ m.askers := by
  unfold comeM at h
  rw [(end_sizes _ _).1] at h
  rcases mid_askers h with q | q
  · exact .inl q
  · rw [(wake_sizes m w s).1] at q; exact .inr q
end Mine

set_option Elab.async false
set_option linter.unusedVariables false
namespace Mine
open PySem PySem.W PyProof.Rows

def LW.str : LW → Str
  | .ask => Str.ofString "ask"
  | .freed => Str.ofString "freed"
  | .back => Str.ofString "back"
def lv : Lt → V
  | (w, a, b) => .tup [.str w.str, nv a, nv b]

def HandM.word (m : HandM) : Str := match m.wait with
  | none => Str.ofString ""
  | some (b, _) => Str.ofString (if b = true then "all" else "any")
structure HA where
  i : Addr
  d : Addr
  a : Addr
  h : Addr
def handNames : List Str := [Str.ofString "number", Str.ofString "is_asker", Str.ofString "is_freed", Str.ofString "word", Str.ofString "others", Str.ofString "has_asked", Str.ofString "askers", Str.ofString "heard", Str.ofString "owed", Str.ofString "waker"]
def attrs (A : HA) (m : HandM) : List (Str × V) := [(Str.ofString "number", .int ((m.num : Nat) : Int)), (Str.ofString "is_asker", .bool m.asker), (Str.ofString "is_freed", .bool m.freed), (Str.ofString "word", .str m.word), (Str.ofString "others", .lst (m.others.map nv)),
  (Str.ofString "has_asked", .bool m.has), (Str.ofString "askers", .ref A.a), (Str.ofString "heard", .ref A.h), (Str.ofString "owed", .int m.owed), (Str.ofString "waker", ov m.waker)]
def heardM (l : List Nat) : Int → Option V := fun i => if 0 ≤ i ∧ i.toNat ∈ l then some (.bool true) else none

structure HandRep (c : Addr) (H : Hp) (A : HA) (m : HandM) : Prop where
  i : H A.i = some (.inst c A.d)
  d : H A.d = some (.ns (Rho.of (attrs A m)) 10)
  a : H A.a = some (.list (m.askers.map nv))
  h : H A.h = some (.dictI (heardM m.heard) m.heard.length)

structure HandCls (K : Frag) (c : Addr) : Prop where
  ok : ClsOk K c
  names : (handNames.all fun x => findIn K (.ref c) x == some none) = true

def HFrame (H H' : Hp) (A : HA) : Prop := ∀ b o, H b = some o → b ≠ A.d → b ≠ A.a → b ≠ A.h → H' b = some o

theorem Hp.ne {H : Hp} {a b : Addr} {o : O} (ha : H a = some o) (hb : H b = none) : a ≠ b := fun e => by subst e; rw [ha] at hb; cases hb
theorem Hp.ne' {H : Hp} {a b : Addr} {o o' : O} (ha : H a = some o) (hb : H b = some o') (h : o ≠ o') : a ≠ b := fun e => by subst e; rw [ha] at hb; cases hb; exact h rfl

variable {C : Cx} {k : Nat} {K : Frag} {env : Env} {ρ : Rho} {H H' : Hp} {Q R : V → Hp → Prop} {QH : Hp → Prop} {c : Addr} {A : HA} {m m' : HandM}

theorem HandRep.nid (r : HandRep c H A m) : A.i ≠ A.d := Hp.ne' r.i r.d (by simp)
theorem HandRep.nia (r : HandRep c H A m) : A.i ≠ A.a := Hp.ne' r.i r.a (by simp)
theorem HandRep.nih (r : HandRep c H A m) : A.i ≠ A.h := Hp.ne' r.i r.h (by simp)
theorem HandRep.nda (r : HandRep c H A m) : A.d ≠ A.a := Hp.ne' r.d r.a (by simp)
theorem HandRep.ndh (r : HandRep c H A m) : A.d ≠ A.h := Hp.ne' r.d r.h (by simp)
theorem HandRep.nah (r : HandRep c H A m) : A.a ≠ A.h := Hp.ne' r.a r.h (by simp)

theorem HandRep.le (r : HandRep c H A m) (h : Hp.le H H') : HandRep c H' A m := ⟨h _ _ r.i, h _ _ r.d, h _ _ r.a, h _ _ r.h⟩
theorem HandRep.fresh {x : Addr} {o : O} (r : HandRep c H A m) (hx : H x = none) : HandRep c (H.set x o) A m := r.le (Hp.le_set hx)
theorem HandRep.other {x : Addr} {o : O} (r : HandRep c H A m) (h1 : A.i ≠ x) (h2 : A.d ≠ x) (h3 : A.a ≠ x) (h4 : A.h ≠ x) : HandRep c (H.set x o) A m :=
  ⟨(Hp.set_ne h1).trans r.i, (Hp.set_ne h2).trans r.d, (Hp.set_ne h3).trans r.a, (Hp.set_ne h4).trans r.h⟩
/-- a list besides the hand's own -/
theorem HandRep.list {x : Addr} {l l' : List V} (r : HandRep c H A m) (hx : H x = some (.list l)) (hn : x ≠ A.a) : HandRep c (H.set x (.list l')) A m :=
  r.other (Hp.ne' r.i hx (by simp)) (Hp.ne' r.d hx (by simp)) hn.symm (Hp.ne' r.h hx (by simp))
theorem HandRep.lk {x : Addr} {l : List V} (r : HandRep c H A m) (hx : H x = some (.list l)) : x ≠ A.d ∧ x ≠ A.h ∧ x ≠ A.i :=
  ⟨(Hp.ne' r.d hx (by simp)).symm, (Hp.ne' r.h hx (by simp)).symm, (Hp.ne' r.i hx (by simp)).symm⟩

theorem HFrame.refl (H : Hp) (A : HA) : HFrame H H A := fun _ _ e _ _ _ => e
theorem HFrame.trans {H'' : Hp} (x : HFrame H H' A) (y : HFrame H' H'' A) : HFrame H H'' A := fun b o e n1 n2 n3 => y b o (x b o e n1 n2 n3) n1 n2 n3
theorem HFrame.set {x : Addr} {o : O} (h : HFrame H H' A) (hx : H x = none) : HFrame H (H'.set x o) A := fun b ob e n1 n2 n3 => by
  rw [Hp.set_ne (Hp.ne e hx)]; exact h b ob e n1 n2 n3
theorem HFrame.but (h : HFrame H H' A) {H'' : Hp} {x : Addr} (e : ∀ b, b ≠ x → H'' b = H' b) (hx : x = A.d ∨ x = A.a ∨ x = A.h) : HFrame H H'' A := fun b ob eb n1 n2 n3 => by
  rw [e b (by rcases hx with q | q | q <;> rw [q] <;> assumption)]; exact h b ob eb n1 n2 n3

theorem HandCls.name (hc : HandCls K c) {x : Str} (hx : x ∈ handNames) : findIn K (.ref c) x = some none := by
  have := List.all_eq_true.mp hc.names x hx
  simpa using this
theorem HandRep.get (P : PCx C K) (hc : HandCls K c) (r : HandRep c H A m) {name : Str} {v : V} (hn : name ∈ handNames) (hm : Rho.of (attrs A m) name = some v) (hv : v.plain = true) (h : Q v H) : AttrW C k (.ref A.i) name Q R H :=
  AttrW.inst P hc.ok r.i r.d hm (hc.name hn) hv h
theorem HandRep.put (P : PCx C K) (hc : HandCls K c) (r : HandRep c H A m) {name : Str} {u : V} (m' : HandM) (hn : name ∈ handNames) (hl : (Rho.of (attrs A m) name).isSome = true) (e : putL (attrs A m) name u = attrs A m')
    (ha : m'.askers = m.askers) (hh : m'.heard = m.heard) (h : ∀ H', HandRep c H' A m' → (∀ b, b ≠ A.d → H' b = H b) → QH H') : SetAttrW C k (.ref A.i) name u QH R H := by
  refine SetAttrW.inst P hc.ok r.i r.d (hc.name hn) (by decide) hl ?_
  rw [e]
  refine h _ ⟨(Hp.set_ne r.nid).trans r.i, Hp.set_self .., ?_, ?_⟩ fun b hb => Hp.set_ne hb
  · rw [Hp.set_ne r.nda.symm, ha]; exact r.a
  · rw [Hp.set_ne r.ndh.symm, hh]; exact r.h

/- in the same form for each attribute that is stored -/
theorem attrs_owed (x : Int) : putL (attrs A m) (Str.ofString "owed") (.int x) = attrs A { m with owed := x } := by with_unfolding_all rfl
theorem attrs_waker (x : Option Nat) : putL (attrs A m) (Str.ofString "waker") (ov x) = attrs A { m with waker := x } := by with_unfolding_all rfl
theorem attrs_has (x : Bool) : putL (attrs A m) (Str.ofString "has_asked") (.bool x) = attrs A { m with has := x } := by with_unfolding_all rfl
theorem attrs_freed (x : Bool) : putL (attrs A m) (Str.ofString "is_freed") (.bool x) = attrs A { m with freed := x } := by with_unfolding_all rfl
theorem HandRep.putOwed (P : PCx C K) (hc : HandCls K c) (r : HandRep c H A m) (x : Int) (h : ∀ H', HandRep c H' A { m with owed := x } → (∀ b, b ≠ A.d → H' b = H b) → QH H') : SetAttrW C k (.ref A.i) (Str.ofString "owed") (.int x) QH R H :=
  r.put P hc { m with owed := x } (by simp [handNames]) (by with_unfolding_all rfl) (attrs_owed x) rfl rfl h
theorem HandRep.putWaker (P : PCx C K) (hc : HandCls K c) (r : HandRep c H A m) (x : Option Nat) (h : ∀ H', HandRep c H' A { m with waker := x } → (∀ b, b ≠ A.d → H' b = H b) → QH H') : SetAttrW C k (.ref A.i) (Str.ofString "waker") (ov x) QH R H :=
  r.put P hc { m with waker := x } (by simp [handNames]) (by with_unfolding_all rfl) (attrs_waker x) rfl rfl h
theorem HandRep.putHas (P : PCx C K) (hc : HandCls K c) (r : HandRep c H A m) (x : Bool) (h : ∀ H', HandRep c H' A { m with has := x } → (∀ b, b ≠ A.d → H' b = H b) → QH H') : SetAttrW C k (.ref A.i) (Str.ofString "has_asked") (.bool x) QH R H :=
  r.put P hc { m with has := x } (by simp [handNames]) (by with_unfolding_all rfl) (attrs_has x) rfl rfl h
theorem HandRep.putFreed (P : PCx C K) (hc : HandCls K c) (r : HandRep c H A m) (x : Bool) (h : ∀ H', HandRep c H' A { m with freed := x } → (∀ b, b ≠ A.d → H' b = H b) → QH H') : SetAttrW C k (.ref A.i) (Str.ofString "is_freed") (.bool x) QH R H :=
  r.put P hc { m with freed := x } (by simp [handNames]) (by with_unfolding_all rfl) (attrs_freed x) rfl rfl h

theorem HandRep.meth (P : PCx C K) (hc : HandCls K c) (r : HandRep c H A m) {name : Str} {f : Addr} (hm : Rho.of (attrs A m) name = none) (hf : findIn K (.ref c) name = some (some (.ref f))) (ht : typeIn K (.ref f) = some (.type "function")) : MethIs C H (.ref A.i) name (.ref f) :=
  MethIs.own P hc.ok r.i r.d hm hf ht

/-- what a method of a hand leaves -/
def Out (c : Addr) (H : Hp) (A : HA) (p : HandM × List Lt) (Q : V → Hp → Prop) : Prop :=
  ∀ H' x, HandRep c H' A p.1 → H' x = some (.list (p.2.map lv)) → H x = none → HFrame H H' A → Q (.ref x) H'
def HOk (m : HandM) : Prop := m.askers.length ≤ 400 ∧ m.heard.length ≤ 400 ∧ m.others.length ≤ 400

def S_send (c : Addr) : SpecT := fun args Q R H => ∃ (A : HA) (m : HandM) (w : LW) (l : List Nat) (hv : V), args = [.ref A.i, .str w.str, hv] ∧ HandRep c H A m ∧ lview H hv = some (l.map nv) ∧ l.length ≤ 400 ∧ Out c H A (sendM m w l) Q
def S_begin (c : Addr) : SpecT := fun args Q R H => ∃ (A : HA) (m : HandM), args = [.ref A.i] ∧ HandRep c H A m ∧ m.others.length ≤ 400 ∧ Out c H A (beginM m) Q
def S_asked (c : Addr) : SpecT := fun args Q R H => ∃ (A : HA) (m : HandM) (s : Nat), args = [.ref A.i, nv s] ∧ HandRep c H A m ∧ HOk m ∧ Out c H A (askedM m s) Q
def S_told (c : Addr) : SpecT := fun args Q R H => ∃ (A : HA) (m : HandM) (s : Nat), args = [.ref A.i, nv s] ∧ HandRep c H A m ∧ HOk m ∧ Out c H A (toldM m s) Q
def S_come (c : Addr) : SpecT := fun args Q R H => ∃ (A : HA) (m : HandM) (w : LW) (s r : Nat), args = [.ref A.i, lv (w, s, r)] ∧ HandRep c H A m ∧ HOk m ∧ Out c H A (comeM m w s) Q
def S_init (c : Addr) : SpecT := fun args Q R H => ∃ (x d : Addr) (num : Nat) (w : Wt) (b : Bool), args = [.ref x, nv num, wv w, .bool b] ∧ H x = some (.inst c d) ∧ H d = some (.ns (Rho.of []) 0) ∧ (initM num w b).others.length ≤ 400 ∧
  ∀ H' A, A.i = x → A.d = d → HandRep c H' A (initM num w b) → H A.a = none → H A.h = none → (∀ b o, H b = some o → b ≠ d → H' b = some o) → Q .none H'

theorem lview_keep {v : V} {l : List V} {x : Addr} (hv : lview H v = some l) (e : ∀ b, b ≠ x → H' b = H b) (hx : ∀ l, H x ≠ some (.list l)) : lview H' v = some l := by
  cases v with
  | ref a =>
    have : a ≠ x := fun q => by
      subst q
      unfold lview at hv
      dsimp only at hv
      split at hv
      · rename_i l' e'; exact hx _ e'
      · cases hv
    simp only [lview, e a this] at hv ⊢; exact hv
  | _ => exact hv
theorem heardM_cons (l : List Nat) (s : Nat) : (fun x => if x = ((s : Nat) : Int) then some (V.bool true) else heardM l x) = heardM (s :: l) := by
  funext x
  unfold heardM
  by_cases h : x = (s : Int)
  · subst h; simp
  · simp only [h, if_false, List.mem_cons]
    by_cases h0 : 0 ≤ x
    · have : ¬ x.toNat = s := fun q => h (by omega)
      simp [this]
    · simp [h0]
theorem heardM_some (l : List Nat) (n : Nat) : (heardM l ((n : Nat) : Int)).isSome = decide (n ∈ l) := by
  unfold heardM
  by_cases h : n ∈ l
  · simp [h]
  · simp [h]
end Mine

set_option Elab.async false
set_option linter.unusedVariables false
namespace Mine
open PySem PySem.W PyProof.Rows
variable {C : Cx} {k : Nat} {K : Frag} {env : Env} {ρ : Rho} {H H' : Hp} {Q R : V → Hp → Prop} {QH : Hp → Prop} {c : Addr} {A : HA} {m m' : HandM}

theorem gAt {v name} (h : AttrW C k v name Q R H) : AttrW C k v name Q R H := h

theorem str_back (w : LW) : (w.str == Str.ofString "back") = decide (w = .back) := by cases w <;> with_unfolding_all rfl
theorem str_ask (w : LW) : (w.str == Str.ofString "ask") = decide (w = .ask) := by cases w <;> with_unfolding_all rfl
theorem str_freed (w : LW) : (w.str == Str.ofString "freed") = decide (w = .freed) := by cases w <;> with_unfolding_all rfl
theorem word_all (m : HandM) : (m.word == Str.ofString "all") = m.isAll := by
  unfold HandM.word HandM.isAll
  rcases m.wait with _ | ⟨_ | _, l⟩ <;> with_unfolding_all rfl
theorem ov_notCon (o : Option Nat) : (ov o).notCon := by cases o <;> trivial
theorem ov_isNone (o : Option Nat) : (ov o).isNone = o.isNone := by cases o <;> rfl
theorem ov_plain (o : Option Nat) : (ov o).plain = true := by cases o <;> rfl

theorem HandRep.keep {x : Addr} {l : List V} (r : HandRep c H A m) (hx : H x = some (.list l)) (e : ∀ b, b ≠ A.d → H' b = H b) : H' x = some (.list l) := (e x (r.lk hx).1).trans hx
theorem HandRep.frame {x : Addr} {l : List V} (r : HandRep c H A m) (hx : H x = some (.list l)) (hn : x ≠ A.a) (f : HFrame H H' A) : H' x = some (.list l) := f x _ hx (r.lk hx).1 hn (r.lk hx).2.1
theorem HandRep.setHeard (r : HandRep c H A m) (s : Nat) (n : Nat) (hn : n = m.heard.length) : HandRep c (H.set A.h (.dictI (fun x => if x = ((s : Nat) : Int) then some (V.bool true) else heardM m.heard x) (n + 1))) A { m with heard := s :: m.heard } := by
  subst hn
  refine ⟨(Hp.set_ne r.nih).trans r.i, (Hp.set_ne r.ndh).trans r.d, (Hp.set_ne r.nah).trans r.a, ?_⟩
  rw [Hp.set_self, heardM_cons]; rfl
theorem HandRep.setAskers (r : HandRep c H A m) (s : Nat) : HandRep c (H.set A.a (.list (m.askers.map nv ++ [V.int ((s : Nat) : Int)]))) A { m with askers := m.askers ++ [s] } := by
  refine ⟨(Hp.set_ne r.nia).trans r.i, (Hp.set_ne r.nda).trans r.d, ?_, (Hp.set_ne r.nah.symm).trans r.h⟩
  rw [Hp.set_self]; simp [nv]

/- a hand that is being made -/
structure IRep (c : Addr) (H0 H : Hp) (x dd : Addr) (l : List (Str × V)) (n : Nat) : Prop where
  i : H x = some (.inst c dd)
  d : H dd = some (.ns (Rho.of l) n)
  fr : ∀ b o, H0 b = some o → b ≠ dd → H b = some o
theorem IRep.ne {H0 : Hp} {x d l n} (r : IRep c H0 H x d l n) : x ≠ d := Hp.ne' r.i r.d (by simp)
theorem IRep.put (P : PCx C K) (hc : HandCls K c) {H0 : Hp} {x d l n} {name : Str} {u : V} (r : IRep c H0 H x d l n) (hn : name ∈ handNames) (hle : n ≤ 900) (h : ∀ H', IRep c H0 H' x d (putL l name u) (n + 1) → (∀ b, b ≠ d → H' b = H b) → QH H') : SetAttrW C k (.ref x) name u QH R H := by
  refine SetAttrW.new P hc.ok r.i r.d (hc.name hn) hle (h _ ⟨(Hp.set_ne r.ne).trans r.i, Hp.set_self .., fun b o e q => ?_⟩ fun b hb => Hp.set_ne hb)
  rw [Hp.set_ne q]; exact r.fr b o e q
theorem IRep.putOld (P : PCx C K) (hc : HandCls K c) {H0 : Hp} {x d l n} {name : Str} {u : V} (r : IRep c H0 H x d l n) (hn : name ∈ handNames) (hle : n ≤ 900) (hl : (Rho.of l name).isSome = true) (h : ∀ H', IRep c H0 H' x d (putL l name u) n → (∀ b, b ≠ d → H' b = H b) → QH H') : SetAttrW C k (.ref x) name u QH R H := by
  refine SetAttrW.inst P hc.ok r.i r.d (hc.name hn) hle hl (h _ ⟨(Hp.set_ne r.ne).trans r.i, Hp.set_self .., fun b o e q => ?_⟩ fun b hb => Hp.set_ne hb)
  rw [Hp.set_ne q]; exact r.fr b o e q
theorem IRep.fresh {H0 : Hp} {x d l n} {y : Addr} {o : O} (r : IRep c H0 H x d l n) (hy : H y = none) (hy0 : H0 y = none) : IRep c H0 (H.set y o) x d l n :=
  ⟨(Hp.set_ne (Hp.ne r.i hy)).trans r.i, (Hp.set_ne (Hp.ne r.d hy)).trans r.d, fun b ob e q => by rw [Hp.set_ne (Hp.ne e hy0)]; exact r.fr b ob e q⟩
theorem IRep.old {H0 : Hp} {x d l n} {y : Addr} (r : IRep c H0 H x d l n) (hy : H y = none) : H0 y = none := by
  cases e : H0 y with
  | none => rfl
  | some o =>
    by_cases q : y = d
    · subst q; rw [r.d] at hy; cases hy
    · rw [r.fr y o e q] at hy; cases hy

theorem HFrame.none {x : Addr} (r : HandRep c H A m) (r' : HandRep c H' A m') (f : HFrame H H' A) (hx : H' x = none) : H x = none := by
  cases e : H x with
  | none => rfl
  | some o =>
    have n1 : x ≠ A.d := (Hp.ne r'.d hx).symm
    have n2 : x ≠ A.a := (Hp.ne r'.a hx).symm
    have n3 : x ≠ A.h := (Hp.ne r'.h hx).symm
    rw [f x o e n1 n2 n3] at hx; cases hx
end Mine

set_option Elab.async false
set_option linter.unusedVariables false
namespace Mine
open PySem PySem.W PyProof.Rows
variable {C : Cx} {k : Nat} {K : Frag} {env : Env} {ρ : Rho} {H H' : Hp} {Q R : V → Hp → Prop} {QH : Hp → Prop} {c cH cN : Addr} {A : HA} {m m' : HandM}

structure NAd where
  i : Addr
  d : Addr
  row : Addr
def netNames : List Str := [Str.ofString "asker", Str.ofString "hands", Str.ofString "row", Str.ofString "many"]
def hrefs (As : Nat → HA) (n : Nat) : List V := (List.range n).map fun k => .ref (As k).i
def nattrs (N : NAd) (As : Nat → HA) (n asker many : Nat) : List (Str × V) :=
  [(Str.ofString "asker", .int ((asker : Nat) : Int)), (Str.ofString "hands", .lst (hrefs As n)), (Str.ofString "row", .ref N.row), (Str.ofString "many", .int ((many : Nat) : Int))]
structure NetCls (K : Frag) (c : Addr) : Prop where
  ok : ClsOk K c
  names : (netNames.all fun x => findIn K (.ref c) x == some none) = true
theorem NetCls.name (hc : NetCls K c) {x : Str} (hx : x ∈ netNames) : findIn K (.ref c) x = some none := by
  have := List.all_eq_true.mp hc.names x hx
  simpa using this
structure NetRep (cH cN : Addr) (H : Hp) (N : NAd) (As : Nat → HA) (n asker : Nat) (M : NetM) : Prop where
  i : H N.i = some (.inst cN N.d)
  d : H N.d = some (.ns (Rho.of (nattrs N As n asker M.many)) 4)
  row : H N.row = some (.list (M.row.map lv))
  hands : ∀ k < n, HandRep cH H (As k) (M.hands k)
  sd : ∀ j k, j < n → k < n → j ≠ k → (As j).d ≠ (As k).d ∧ (As j).a ≠ (As k).a ∧ (As j).h ≠ (As k).h
  nd : ∀ k < n, (As k).d ≠ N.d
  na : ∀ k < n, (As k).a ≠ N.row
def NFoot (N : NAd) (As : Nat → HA) (n : Nat) (b : Addr) : Prop := b = N.d ∨ b = N.row ∨ ∃ k < n, b = (As k).d ∨ b = (As k).a ∨ b = (As k).h
def NFrame (H H' : Hp) (N : NAd) (As : Nat → HA) (n : Nat) : Prop := ∀ b o, H b = some o → ¬ NFoot N As n b → H' b = some o

variable {N : NAd} {As : Nat → HA} {n asker : Nat} {M : NetM}
theorem NetRep.nid (r : NetRep cH cN H N As n asker M) : N.i ≠ N.d := Hp.ne' r.i r.d (by simp)
theorem NetRep.le (r : NetRep cH cN H N As n asker M) (h : Hp.le H H') : NetRep cH cN H' N As n asker M :=
  ⟨h _ _ r.i, h _ _ r.d, h _ _ r.row, fun k hk => (r.hands k hk).le h, r.sd, r.nd, r.na⟩
theorem NFrame.refl (H : Hp) (N : NAd) (As : Nat → HA) (n : Nat) : NFrame H H N As n := fun _ _ e _ => e
theorem NFrame.trans {H'' : Hp} (x : NFrame H H' N As n) (y : NFrame H' H'' N As n) : NFrame H H'' N As n := fun b o e q => y b o (x b o e q) q
theorem NFrame.but (h : NFrame H H' N As n) {H'' : Hp} {x : Addr} (e : ∀ b, b ≠ x → H'' b = H' b) (hx : NFoot N As n x) : NFrame H H'' N As n := fun b ob eb q => by
  rw [e b (fun z => q (z ▸ hx))]; exact h b ob eb q
theorem NFrame.hand {j : Nat} (hj : j < n) (h : HFrame H H' (As j)) : NFrame H H' N As n := fun b o e q =>
  h b o e (fun z => q (.inr (.inr ⟨j, hj, .inl z⟩))) (fun z => q (.inr (.inr ⟨j, hj, .inr (.inl z)⟩))) (fun z => q (.inr (.inr ⟨j, hj, .inr (.inr z)⟩)))
theorem NetRep.get (P : PCx C K) (hc : NetCls K cN) (r : NetRep cH cN H N As n asker M) {name : Str} {v : V} (hn : name ∈ netNames) (hm : Rho.of (nattrs N As n asker M.many) name = some v) (hv : v.plain = true) (h : Q v H) : AttrW C k (.ref N.i) name Q R H :=
  AttrW.inst P hc.ok r.i r.d hm (hc.name hn) hv h
theorem NetRep.meth (P : PCx C K) (hc : NetCls K cN) (r : NetRep cH cN H N As n asker M) {name : Str} {f : Addr} (hm : Rho.of (nattrs N As n asker M.many) name = none) (hf : findIn K (.ref cN) name = some (some (.ref f))) (ht : typeIn K (.ref f) = some (.type "function")) : MethIs C H (.ref N.i) name (.ref f) :=
  MethIs.own P hc.ok r.i r.d hm hf ht
theorem nattrs_many (x : Nat) (mn : Nat) : putL (nattrs N As n asker mn) (Str.ofString "many") (.int ((x : Nat) : Int)) = nattrs N As n asker x := by with_unfolding_all rfl
theorem NetRep.putMany (P : PCx C K) (hc : NetCls K cN) (r : NetRep cH cN H N As n asker M) (x : Nat) (h : ∀ H', NetRep cH cN H' N As n asker { M with many := x } → (∀ b, b ≠ N.d → H' b = H b) → QH H') : SetAttrW C k (.ref N.i) (Str.ofString "many") (.int ((x : Nat) : Int)) QH R H := by
  refine SetAttrW.inst P hc.ok r.i r.d (hc.name (by simp [netNames])) (by decide) (by with_unfolding_all rfl) ?_
  rw [nattrs_many]
  refine h _ ⟨(Hp.set_ne r.nid).trans r.i, Hp.set_self .., ?_, fun k hk => ?_, r.sd, r.nd, r.na⟩ fun b hb => Hp.set_ne hb
  · rw [Hp.set_ne (Hp.ne' r.row r.d (by simp))]; exact r.row
  · have q := r.hands k hk
    exact q.other (Hp.ne' q.i r.d (by simp)) (r.nd k hk) (Hp.ne' q.a r.d (by simp)) (Hp.ne' q.h r.d (by simp))
/-- the row is changed -/
theorem NetRep.setRow (r : NetRep cH cN H N As n asker M) (l : List Lt) : NetRep cH cN (H.set N.row (.list (l.map lv))) N As n asker { M with row := l } := by
  refine ⟨(Hp.set_ne (Hp.ne' r.i r.row (by simp))).trans r.i, (Hp.set_ne (Hp.ne' r.d r.row (by simp))).trans r.d, Hp.set_self .., fun k hk => ?_, r.sd, r.nd, r.na⟩
  exact (r.hands k hk).list r.row (r.na k hk).symm
/-- a hand's method ran -/
theorem NetRep.hand (r : NetRep cH cN H N As n asker M) {j : Nat} (hj : j < n) {p : HandM} (rp : HandRep cH H' (As j) p) (f : HFrame H H' (As j)) : NetRep cH cN H' N As n asker { M with hands := upd M.hands j p } := by
  have q := r.hands j hj
  refine ⟨f _ _ r.i (Hp.ne' r.i q.d (by simp)) (Hp.ne' r.i q.a (by simp)) (Hp.ne' r.i q.h (by simp)), f _ _ r.d (r.nd j hj).symm (Hp.ne' r.d q.a (by simp)) (Hp.ne' r.d q.h (by simp)), f _ _ r.row (Hp.ne' r.row q.d (by simp)) (r.na j hj).symm (Hp.ne' r.row q.h (by simp)), fun k hk => ?_, r.sd, r.nd, r.na⟩
  by_cases e : k = j
  · subst e; simp only [upd, if_true]; exact rp
  · simp only [upd, e, if_false]
    have z := r.hands k hk
    obtain ⟨s1, s2, s3⟩ := r.sd k j hk hj e
    exact ⟨f _ _ z.i (Hp.ne' z.i q.d (by simp)) (Hp.ne' z.i q.a (by simp)) (Hp.ne' z.i q.h (by simp)), f _ _ z.d s1 (Hp.ne' z.d q.a (by simp)) (Hp.ne' z.d q.h (by simp)), f _ _ z.a (Hp.ne' z.a q.d (by simp)) s2 (Hp.ne' z.a q.h (by simp)), f _ _ z.h (Hp.ne' z.h q.d (by simp)) (Hp.ne' z.h q.a (by simp)) s3⟩

def NOk (n : Nat) (M : NetM) : Prop := (∀ k < n, HOk (M.hands k)) ∧ (∀ t ∈ M.row, t.2.2 < n) ∧ M.row.length ≤ 40000
def S_put (cH cN : Addr) : SpecT := fun args Q R H => ∃ (N : NAd) (As : Nat → HA) (n asker : Nat) (M : NetM) (x : Addr) (l : List Lt), args = [.ref N.i, .ref x] ∧ NetRep cH cN H N As n asker M ∧ H x = some (.list (l.map lv)) ∧ x ≠ N.row ∧ M.row.length + l.length ≤ 45000 ∧
  ∀ H', NetRep cH cN H' N As n asker { M with row := M.row ++ l, many := M.many + l.length } → (∀ b, b ≠ N.d → b ≠ N.row → H' b = H b) → Q .none H'
def S_letters (cH cN : Addr) : SpecT := fun args Q R H => ∃ (N : NAd) (As : Nat → HA) (n asker : Nat) (M : NetM), args = [.ref N.i] ∧ NetRep cH cN H N As n asker M ∧ M.row.length ≤ 50000 ∧ (Q (.lst (M.row.map lv)) H ∨ ∀ x, H x = none → Q (.ref x) (H.set x (.list (M.row.map lv))))
def S_sent (cH cN : Addr) : SpecT := fun args Q R H => ∃ (N : NAd) (As : Nat → HA) (n asker : Nat) (M : NetM), args = [.ref N.i] ∧ NetRep cH cN H N As n asker M ∧ Q (.int ((M.many : Nat) : Int)) H
def rungV (m : HandM) : V := if 0 < m.owed then .none else .bool (!m.freed)
def S_rung (cH cN : Addr) : SpecT := fun args Q R H => ∃ (N : NAd) (As : Nat → HA) (n asker : Nat) (M : NetM), args = [.ref N.i] ∧ NetRep cH cN H N As n asker M ∧ asker < n ∧ n ≤ 1000 ∧ Q (rungV (M.hands asker)) H
def shownM (n : Nat) (M : NetM) : List Nat := ((List.range n).filter fun k => (M.hands k).has && !(M.hands k).freed).map fun k => (M.hands k).num
def S_shown (cH cN : Addr) : SpecT := fun args Q R H => ∃ (N : NAd) (As : Nat → HA) (n asker : Nat) (M : NetM), args = [.ref N.i] ∧ NetRep cH cN H N As n asker M ∧ n ≤ 1000 ∧ (Q (.lst ((shownM n M).map nv)) H ∨ ∀ x, H x = none → Q (.ref x) (H.set x (.list ((shownM n M).map nv))))
def S_bring (cH cN : Addr) : SpecT := fun args Q R H => ∃ (N : NAd) (As : Nat → HA) (n asker : Nat) (M : NetM) (p : Nat), args = [.ref N.i, nv p] ∧ NetRep cH cN H N As n asker M ∧ NOk n M ∧ n ≤ 1000 ∧ p < M.row.length ∧
  ∀ H' x, NetRep cH cN H' N As n asker (bringM M p).1 → H' x = some (.list ((bringM M p).2.map lv)) → H x = none → NFrame H H' N As n → Q (.ref x) H'
def S_ninit (cH cN : Addr) : SpecT := fun args Q R H => ∃ (x d : Addr) (W : List Wt) (asker : Nat), args = [.ref x, .lst (W.map wv), nv asker] ∧ WsOk W ∧ asker < W.length ∧ H x = some (.inst cN d) ∧ H d = some (.ns (Rho.of []) 0) ∧
  ∀ H' (N : NAd) As, N.i = x → N.d = d → NetRep cH cN H' N As W.length asker (netM W asker) → (∀ b o, H b = some o → b ≠ d → H' b = some o) → (∀ b, NFoot N As W.length b → b = d ∨ H b = none) → Q .none H'
theorem hrefs_get {j : Nat} (hj : j < n) : (hrefs As n)[j]? = some (.ref (As j).i) := by
  unfold hrefs; simp [hj]
theorem hrefs_len : (hrefs As n).length = n := by simp [hrefs]

/- a net that is being made -/
structure JRep (c : Addr) (H0 H : Hp) (x dd : Addr) (l : List (Str × V)) (n : Nat) : Prop where
  i : H x = some (.inst c dd)
  d : H dd = some (.ns (Rho.of l) n)
  fr : ∀ b o, H0 b = some o → b ≠ dd → H b = some o
theorem JRep.ne {H0 : Hp} {x d l n} (r : JRep c H0 H x d l n) : x ≠ d := Hp.ne' r.i r.d (by simp)
theorem JRep.put (P : PCx C K) (hc : NetCls K c) {H0 : Hp} {x d l n} {name : Str} {u : V} (r : JRep c H0 H x d l n) (hn : name ∈ netNames) (hle : n ≤ 900) (h : ∀ H', JRep c H0 H' x d (putL l name u) (n + 1) → (∀ b, b ≠ d → H' b = H b) → QH H') : SetAttrW C k (.ref x) name u QH R H := by
  refine SetAttrW.new P hc.ok r.i r.d (hc.name hn) hle (h _ ⟨(Hp.set_ne r.ne).trans r.i, Hp.set_self .., fun b o e q => ?_⟩ fun b hb => Hp.set_ne hb)
  rw [Hp.set_ne q]; exact r.fr b o e q
theorem JRep.le {H0 : Hp} {x d l n} (r : JRep c H0 H x d l n) (h : Hp.le H H') : JRep c H0 H' x d l n := ⟨h _ _ r.i, h _ _ r.d, fun b o e q => h _ _ (r.fr b o e q)⟩
theorem JRep.old {H0 : Hp} {x d l n} {y : Addr} (r : JRep c H0 H x d l n) (hy : H y = none) : H0 y = none := by
  cases e : H0 y with
  | none => rfl
  | some o =>
    by_cases q : y = d
    · subst q; rw [r.d] at hy; cases hy
    · rw [r.fr y o e q] at hy; cases hy
end Mine

set_option Elab.async false
set_option linter.unusedVariables false
namespace Mine
open PySem PySem.W PyProof.Rows
variable {C : Cx} {k : Nat} {K : Frag} {env : Env} {ρ : Rho} {H H' : Hp} {Q R : V → Hp → Prop} {QH : Hp → Prop} {c cH cN : Addr} {A : HA} {m m' : HandM} {As : Nat → HA} {n asker : Nat} {W : List Wt}

theorem map_eraseIdx' {α β : Type} (f : α → β) : ∀ (l : List α) (p : Nat), (l.map f).eraseIdx p = (l.eraseIdx p).map f
  | [], _ => rfl
  | _ :: _, 0 => rfl
  | x :: l, p + 1 => by simp only [List.map_cons, List.eraseIdx_cons_succ, map_eraseIdx' f l p]
structure HsRep (cH : Addr) (H1 H' : Hp) (W : List Wt) (asker : Nat) (As : Nat → HA) (i : Nat) (D : Addr) : Prop where
  hands : ∀ k < i, HandRep cH H' (As k) (startM W asker k)
  sd : ∀ j k, j < i → k < i → j ≠ k → (As j).d ≠ (As k).d ∧ (As j).a ≠ (As k).a ∧ (As j).h ≠ (As k).h
  new : ∀ k < i, H1 (As k).i = none ∧ H1 (As k).d = none ∧ H1 (As k).a = none ∧ H1 (As k).h = none
  nD : ∀ k < i, (As k).a ≠ D
  le : Hp.le H1 H'
theorem HsRep.zero {H1 : Hp} {D : Addr} {o : O} (hD : H1 D = none) : HsRep cH H1 (H1.set D o) W asker As 0 D :=
  ⟨fun k hk => absurd hk (Nat.not_lt_zero _), fun j k hj => absurd hj (Nat.not_lt_zero _), fun k hk => absurd hk (Nat.not_lt_zero _), fun k hk => absurd hk (Nat.not_lt_zero _), Hp.le_set hD⟩
theorem HsRep.step {H1 H'' : Hp} {D : Addr} {acc acc' : List V} {i : Nat} (r : HsRep cH H1 H' W asker As i D) (hD : H' D = some (.list acc)) (h1D : H1 D = none) (le : Hp.le H' H'') (rep : HandRep cH H'' A (startM W asker i))
    (n1 : H' A.i = none) (n2 : H' A.d = none) (n3 : H' A.a = none) (n4 : H' A.h = none) : HsRep cH H1 (H''.set D (.list acc')) W asker (upd As i A) (i + 1) D := by
  have hD2 := le _ _ hD
  have up : ∀ k, k < i → upd As i A k = As k := fun k hk => if_neg (by omega)
  have upi : upd As i A i = A := if_pos rfl
  have cs : ∀ {k}, k < i + 1 → k < i ∨ k = i := fun h => by omega
  have nA : A.a ≠ D := fun e => by rw [e, hD] at n3; cases n3
  have z1 : ∀ x, H' x = none → H1 x = none := fun x hx => by
    cases e : H1 x with
    | none => rfl
    | some o => rw [r.le _ _ e] at hx; cases hx
  refine ⟨fun k hk => ?_, fun j k hj hk hjk => ?_, fun k hk => ?_, fun k hk => ?_, fun b o e => ?_⟩
  · rcases cs hk with h | rfl
    · rw [up k h]; exact ((r.hands k h).le le).list hD2 (r.nD k h).symm
    · rw [upi]; exact rep.list hD2 nA.symm
  · rcases cs hj with h | rfl <;> rcases cs hk with h' | rfl
    · rw [up j h, up k h']; exact r.sd j k h h' hjk
    · rw [up j h, upi]
      have q := r.hands j h
      exact ⟨Hp.ne q.d n2, Hp.ne q.a n3, Hp.ne q.h n4⟩
    · rw [up k h', upi]
      have q := r.hands k h'
      exact ⟨(Hp.ne q.d n2).symm, (Hp.ne q.a n3).symm, (Hp.ne q.h n4).symm⟩
    · exact absurd rfl hjk
  · rcases cs hk with h | rfl
    · rw [up k h]; exact r.new k h
    · rw [upi]; exact ⟨z1 _ n1, z1 _ n2, z1 _ n3, z1 _ n4⟩
  · rcases cs hk with h | rfl
    · rw [up k h]; exact r.nD k h
    · rw [upi]; exact nA
  · rw [Hp.set_ne (Hp.ne e h1D)]; exact le _ _ (r.le _ _ e)
theorem hrefs_step {A : HA} {i : Nat} : hrefs (upd As i A) (i + 1) = hrefs As i ++ [.ref A.i] := by
  unfold hrefs
  rw [List.range_succ, List.map_append]
  congr 1
  · refine List.map_congr_left fun k hk => ?_
    have : k ≠ i := by have := List.mem_range.mp hk; omega
    simp [upd, this]
  · simp [upd]
theorem HandRep.del {D : Addr} {l : List V} (r : HandRep c H A m) (hD : H D = some (.list l)) (hn : A.a ≠ D) : HandRep c (H.del D) A m := by
  obtain ⟨a, b, d⟩ := r.lk hD
  have e : ∀ x, x ≠ D → (H.del D) x = H x := fun x hx => if_neg hx
  exact ⟨(e _ d.symm).trans r.i, (e _ a.symm).trans r.d, (e _ hn).trans r.a, (e _ b.symm).trans r.h⟩
theorem HsRep.done {H1 : Hp} {D : Addr} {acc : List V} {i : Nat} (r : HsRep cH H1 H' W asker As i D) (hD : H' D = some (.list acc)) (h1D : H1 D = none) :
    Fz H' (.ref D) (.lst acc) (H'.del D) ∧ (∀ k < i, HandRep cH (H'.del D) (As k) (startM W asker k)) ∧ Hp.le H1 (H'.del D) := by
  have hle : Hp.le (H'.del D) H' := fun b o e => by
    unfold Hp.del at e; split at e
    · cases e
    · exact e
  refine ⟨fz_own hD hle (by simp [Hp.del]), fun k hk => (r.hands k hk).del hD (r.nD k hk), fun b o e => ?_⟩
  unfold Hp.del
  rw [if_neg (Hp.ne e h1D)]; exact r.le _ _ e

/-- out of a net that is being made -/
theorem JRep.net {H0 H1 : Hp} {x d rw : Addr} {l : List (Str × V)} {nn : Nat} (hl : l = nattrs ⟨x, d, rw⟩ As n asker 0) (hn : nn = 4) (r : JRep cN H0 H' x d l nn) (hr : H' rw = some (.list []))
    (hands : ∀ k < n, HandRep cH H' (As k) (startM W asker k)) (sd : ∀ j k, j < n → k < n → j ≠ k → (As j).d ≠ (As k).d ∧ (As j).a ≠ (As k).a ∧ (As j).h ≠ (As k).h)
    (nd : ∀ k < n, (As k).d ≠ d) (na : ∀ k < n, (As k).a ≠ rw) : NetRep cH cN H' ⟨x, d, rw⟩ As n asker ⟨startM W asker, [], 0⟩ := by
  subst hl hn
  exact ⟨r.i, r.d, hr, hands, sd, nd, na⟩
end Mine

set_option Elab.async false
set_option linter.unusedVariables false
namespace Mine

/-- whom a letter keeps owing -/
def ownL (t : Lt) : Nat := if t.1 = .back then t.2.2 else t.2.1
def eW (m : HandM) (x : Nat) : Int := if m.waker = some x then 1 else 0
def cL (l : List Lt) (x : Nat) : Int := ((l.map ownL).count x : Nat)
theorem cL_append (l l' : List Lt) (x : Nat) : cL (l ++ l') x = cL l x + cL l' x := by
  unfold cL; rw [List.map_append, List.count_append]; omega
theorem cL_nil (x : Nat) : cL [] x = 0 := rfl
theorem cL_one (t : Lt) (x : Nat) : cL [t] x = if ownL t = x then 1 else 0 := by
  unfold cL; simp only [List.map_cons, List.map_nil, List.count_cons, List.count_nil]
  by_cases h : ownL t = x <;> simp [h]
theorem cL_send (m : HandM) (w : LW) (hw : w ≠ .back) (l : List Nat) (x : Nat) : cL (sendM m w l).2 x = if x = m.num then (l.length : Int) else 0 := by
  unfold sendM
  induction l with
  | nil => simp [cL]
  | cons y l ih =>
    show cL ([(w, m.num, y)] ++ (l.map fun x => (w, m.num, x))) x = _
    rw [cL_append, cL_one]
    simp only at ih
    rw [ih]
    simp only [ownL, if_neg hw, List.length_cons]
    by_cases h : x = m.num
    · subst h; simp; omega
    · have : ¬ m.num = x := fun e => h e.symm
      simp [h, this]
theorem cL_nonneg (l x) : 0 ≤ cL l x := by unfold cL; omega

theorem mid_bal (m w s x) : cL (midM m w s).2 x = if x = m.num then (midM m w s).1.owed - m.owed else 0 := by
  have sb : ∀ (m' : HandM) w' l, w' ≠ LW.back → m'.num = m.num → m'.owed = m.owed → cL (sendM m' w' l).2 x = if x = m.num then (sendM m' w' l).1.owed - m.owed else 0 := by
    intro m' w' l hw hn ho
    rw [cL_send m' w' hw, hn]
    show _ = if x = m.num then m'.owed + (l.length : Int) - m.owed else 0
    rw [ho]; split <;> omega
  have z : ∀ (m' : HandM), m'.owed = m.owed → cL [] x = if x = m.num then m'.owed - m.owed else 0 := by
    intro m' ho; rw [cL_nil, ho]; split <;> omega
  cases w
  · show cL (askedM m s).2 x = if x = m.num then (askedM m s).1.owed - m.owed else 0
    unfold askedM; split
    · exact sb m .freed [s] (by simp) rfl rfl
    · split
      · exact z _ rfl
      · unfold beginM; split
        · exact z _ rfl
        · exact sb { m with askers := m.askers ++ [s], has := true } .ask _ (by simp) rfl rfl
  · show cL (toldM m s).2 x = if x = m.num then (toldM m s).1.owed - m.owed else 0
    unfold toldM; split
    · exact z _ rfl
    · split
      · exact z _ rfl
      · exact sb { m with heard := s :: m.heard, freed := true } .freed _ (by simp) rfl rfl
  · exact z _ rfl

theorem wake_bal (m w s x) : cL (wakeM m w s).2 x + eW (wakeM m w s).1 x = eW m x + (if ownL (w, s, m.num) = x then 1 else 0) + (if x = m.num then (wakeM m w s).1.owed - m.owed else 0) := by
  unfold wakeM
  split
  · rename_i hw
    subst hw
    rw [cL_nil]
    simp only [eW, ownL, if_true]
    by_cases h : x = m.num
    · subst h; simp; omega
    · have : ¬ m.num = x := fun e => h e.symm
      simp [h, this]
  · rename_i hw
    split
    · rw [cL_one]
      simp only [ownL, if_neg hw, if_true]
      by_cases h : x = m.num <;> simp [h] <;> omega
    · rename_i h2
      simp only [Bool.or_eq_true, not_or, Bool.not_eq_true, Option.isSome_eq_false_iff, Option.isNone_iff_eq_none] at h2
      rw [cL_nil]
      simp only [eW, ownL, if_neg hw, h2.2]
      by_cases h : x = m.num
      · by_cases h3 : s = x <;> simp [h, h3]
      · by_cases h3 : s = x <;> simp [h, h3]

theorem end_bal (m fl x) : cL (endM m fl).2 x + eW (endM m fl).1 x = cL fl x + eW m x ∧ (endM m fl).1.owed = m.owed := by
  unfold endM
  split
  · rename_i u hu
    split
    · refine ⟨?_, rfl⟩
      rw [cL_append, cL_one]
      simp only [eW, ownL, if_true, hu]
      by_cases h : u = x <;> simp [h]
    · exact ⟨rfl, rfl⟩
  · exact ⟨rfl, rfl⟩

theorem come_bal (m w s x) : cL (comeM m w s).2 x + eW (comeM m w s).1 x = eW m x + (if ownL (w, s, m.num) = x then 1 else 0) + (if x = m.num then (comeM m w s).1.owed - m.owed else 0) := by
  unfold comeM
  have e1 := end_bal (midM (wakeM m w s).1 w s).1 ((wakeM m w s).2 ++ (midM (wakeM m w s).1 w s).2) x
  rw [e1.1, e1.2, cL_append]
  have e2 := mid_bal (wakeM m w s).1 w s x
  have e3 := wake_bal m w s x
  have e4 : eW (midM (wakeM m w s).1 w s).1 x = eW (wakeM m w s).1 x := by unfold eW; rw [mid_waker]
  rw [e4]
  rw [(wake_same m w s).num] at e2
  rw [e2]
  by_cases h : x = m.num
  · simp only [h, if_true] at e3 ⊢; omega
  · simp only [h, if_false] at e3 ⊢; omega

/- what the waker becomes -/
theorem end_waker (m fl) : (endM m fl).1.waker = none ∨ ((endM m fl).1.owed ≠ 0 ∧ (endM m fl).1.waker = m.waker) := by
  unfold endM
  split
  · split
    · exact .inl rfl
    · rename_i h; exact .inr ⟨h, rfl⟩
  · rename_i hu; exact .inl hu
theorem end_none {m fl} (hw : m.waker ≠ none) (h : (endM m fl).1.waker = none) : (endM m fl).1.owed = 0 := by
  unfold endM at h ⊢
  split
  · rename_i u hu
    split
    · rename_i h0; exact h0
    · rename_i h0
      simp only [hu, h0, if_false] at h
      exact absurd h (by simp)
  · rename_i hu; exact absurd hu hw
theorem come_waker (m w s) : (comeM m w s).1.waker = none ∨ ((comeM m w s).1.owed ≠ 0 ∧ (comeM m w s).1.waker = (wakeM m w s).1.waker) := by
  have := end_waker (midM (wakeM m w s).1 w s).1 ((wakeM m w s).2 ++ (midM (wakeM m w s).1 w s).2)
  rw [mid_waker] at this
  exact this
theorem come_none (m w s) (hw : (wakeM m w s).1.waker ≠ none) (h : (comeM m w s).1.waker = none) : (comeM m w s).1.owed = 0 :=
  end_none (by rw [mid_waker]; exact hw) h
theorem wake_waker_eq (m w s) : (wakeM m w s).1.waker = if w = .back ∨ (m.asker || m.waker.isSome) = true then m.waker else some s := by
  unfold wakeM
  by_cases hw : w = .back
  · simp [hw]
  · by_cases h : (m.asker || m.waker.isSome) = true
    · simp [hw, h]
    · simp only [hw, h, if_false, false_or]; rfl

/- chains of wakers: the newest one first -/
inductive Chain (wk : Nat → Option Nat) (asker : Nat) : List Nat → Prop
  | nil : Chain wk asker []
  | cons {x w : Nat} {l : List Nat} (h : Chain wk asker l) (hx : x ∉ l) (ha : x ≠ asker) (hw : wk x = some w) (hl : w = asker ∨ w ∈ l) : Chain wk asker (x :: l)
theorem Chain.congr {wk wk' asker l} (h : Chain wk asker l) (e : ∀ x ∈ l, wk' x = wk x) : Chain wk' asker l := by
  induction h with
  | nil => exact .nil
  | cons h hx ha hw hl ih => exact .cons (ih fun x hx => e x (.tail _ hx)) hx ha ((e _ (.head _)).trans hw) hl
theorem Chain.drop {wk asker l r} (h : Chain wk asker l) (e : ∀ x ∈ l, wk x ≠ some r) (hr : r ≠ asker) : Chain wk asker (l.filter fun x => decide (x ≠ r)) := by
  induction h with
  | nil => exact .nil
  | @cons x w l h hx ha hw hl ih =>
    have ih := ih fun x hx => e x (.tail _ hx)
    rw [List.filter_cons]
    split
    · refine .cons ih (fun q => hx (List.mem_filter.mp q).1) ha hw ?_
      rcases hl with q | q
      · exact .inl q
      · refine .inr (List.mem_filter.mpr ⟨q, ?_⟩)
        have : w ≠ r := fun z => e x (.head _) (by rw [hw, z])
        simpa using this
    · exact ih
theorem nodup_le : ∀ (n : Nat) (l : List Nat), l.Nodup → (∀ x ∈ l, x < n) → l.length ≤ n
  | 0, [], _, _ => Nat.le_refl _
  | 0, x :: l, _, h => absurd (h x (.head _)) (Nat.not_lt_zero _)
  | n + 1, l, hn, h => by
    have := nodup_le n (l.erase n) (hn.erase n) (fun x hx => by
      have h1 := (hn.mem_erase_iff.mp hx)
      have := h x h1.2
      have := h1.1
      omega)
    have h2 := List.length_erase (a := n) (l := l)
    split at h2 <;> omega

def wkN (n : Nat) (f : Nat → HandM) (x : Nat) : Int := ((List.range n).countP (fun h => decide ((f h).waker = some x)) : Nat)
theorem wkN_succ (n f x) : wkN (n + 1) f x = wkN n f x + eW (f n) x := by
  unfold wkN eW
  rw [List.range_succ, List.countP_append]
  simp only [List.countP_cons, List.countP_nil]
  by_cases h : (f n).waker = some x <;> simp [h]
theorem wkN_upd (f : Nat → HandM) (r : Nat) (m : HandM) (x : Nat) : ∀ n, wkN n (upd f r m) x = wkN n f x + if r < n then eW m x - eW (f r) x else 0
  | 0 => by simp [wkN]
  | n + 1 => by
    rw [wkN_succ, wkN_succ, wkN_upd f r m x n]
    by_cases h : r = n
    · subst h
      simp [upd]; omega
    · have : upd f r m n = f n := by unfold upd; rw [if_neg (fun e => h e.symm)]
      rw [this]
      by_cases h2 : r < n
      · have : r < n + 1 := by omega
        simp [h2, this]; omega
      · have : ¬ r < n + 1 := by omega
        simp [h2, this]
theorem wkN_nonneg (n f x) : 0 ≤ wkN n f x := by unfold wkN; omega
theorem wkN_pos {n f x h} (hn : h < n) (hw : (f h).waker = some x) : 0 < wkN n f x := by
  unfold wkN
  have : 0 < (List.range n).countP (fun h => decide ((f h).waker = some x)) := by
    rw [List.countP_pos_iff]
    exact ⟨h, by simpa using hn, by simpa using hw⟩
  omega

structure Inv7 (n asker : Nat) (N : NetM) : Prop where
  asks : asker < n
  num : ∀ h < n, (N.hands h).num = h
  flag : ∀ h < n, (N.hands h).asker = decide (h = asker)
  oth : ∀ h < n, ∀ x ∈ (N.hands h).others, x < n
  askers : ∀ h < n, ∀ x ∈ (N.hands h).askers, x < n
  row : ∀ t ∈ N.row, t.2.1 < n ∧ t.2.2 < n
  owed : ∀ x < n, (N.hands x).owed = cL N.row x + wkN n N.hands x
  root : (N.hands asker).waker = none
  idle : ∀ x < n, x ≠ asker → (N.hands x).waker = none → (N.hands x).owed = 0
  busy : ∀ x < n, (N.hands x).waker ≠ none → (N.hands x).owed ≠ 0
  tree : ∃ l, Chain (fun x => (N.hands x).waker) asker l ∧ (∀ x ∈ l, x < n) ∧ ∀ x < n, (N.hands x).waker ≠ none → x ∈ l

theorem cL_pos {l : List Lt} {t : Lt} (h : t ∈ l) : 0 < cL l (ownL t) := by
  unfold cL
  have : 0 < (l.map ownL).count (ownL t) := List.count_pos_iff.mpr (List.mem_map.mpr ⟨t, h, rfl⟩)
  omega
theorem cL_erase {l : List Lt} {p : Nat} {t : Lt} (h : l[p]? = some t) (x : Nat) : cL l x = cL (l.eraseIdx p) x + if ownL t = x then 1 else 0 := by
  induction l generalizing p with
  | nil => simp at h
  | cons y l ih =>
    have c : ∀ (l : List Lt) (y : Lt), cL (y :: l) x = cL l x + if ownL y = x then 1 else 0 := fun l y => by
      show cL ([y] ++ l) x = _
      rw [cL_append, cL_one]; omega
    cases p with
    | zero => simp at h; subst h; rw [c]; rfl
    | succ p =>
      have h : l[p]? = some t := by simpa using h
      rw [List.eraseIdx_cons_succ, c, c, ih h]; omega

theorem Inv7.waker_lt {n asker N} (I : Inv7 n asker N) {x w : Nat} (hx : x < n) (hw : (N.hands x).waker = some w) : w < n := by
  obtain ⟨l, hc, hl, hm⟩ := I.tree
  have hxl := hm x hx (by rw [hw]; simp)
  have : ∀ l, Chain (fun x => (N.hands x).waker) asker l → (∀ x ∈ l, x < n) → x ∈ l → w < n := by
    intro l hc
    induction hc with
    | nil => intro _ h; cases h
    | @cons y v l h hx' ha hw' hl' ih =>
      intro hl hx
      cases hx with
      | head => rw [hw] at hw'; cases hw'; rcases hl' with rfl | q; exact I.asks; exact hl _ (.tail _ q)
      | tail _ hx => exact ih (fun z hz => hl z (.tail _ hz)) hx
  exact this l hc hl hxl
theorem Inv7.bring {n asker N} (I : Inv7 n asker N) (p : Nat) : Inv7 n asker (bringM N p).1 := by
  unfold bringM
  split
  · exact I
  rename_i w s r hp
  dsimp only
  have hmem : (w, s, r) ∈ N.row := List.mem_of_getElem? hp
  obtain ⟨hs, hr⟩ := I.row _ hmem
  have hs : s < n := hs
  have hr : r < n := hr
  have hnum := I.num r hr
  have bal := fun x => come_bal (N.hands r) w s x
  have sm := come_same (N.hands r) w s
  rw [hnum] at bal
  have up : ∀ h, h ≠ r → upd N.hands r (comeM (N.hands r) w s).1 h = N.hands h := fun h q => if_neg q
  have upr : upd N.hands r (comeM (N.hands r) w s).1 r = (comeM (N.hands r) w s).1 := if_pos rfl
  have own1 : 0 < cL N.row (ownL (w, s, r)) := cL_pos hmem
  have owned : ∀ x < n, 0 < cL N.row x → x = asker ∨ (N.hands x).waker ≠ none := fun x hx h => by
    by_cases q : x = asker
    · exact .inl q
    · refine .inr fun e => ?_
      have h1 := I.idle x hx q e
      have h2 := I.owed x hx
      have := wkN_nonneg n N.hands x
      omega
  have newOwed : ∀ x < n, (upd N.hands r (comeM (N.hands r) w s).1 x).owed = cL (N.row.eraseIdx p ++ (comeM (N.hands r) w s).2) x + wkN n (upd N.hands r (comeM (N.hands r) w s).1) x := fun x hx => by
    rw [cL_append, wkN_upd, if_pos hr]
    have h1 := cL_erase hp x
    have h2 := bal x
    have h3 := I.owed x hx
    by_cases q : x = r
    · subst q
      rw [upr]; simp only [if_true] at h2; omega
    · rw [up x q]; simp only [q, if_false] at h2; omega
  -- whether the hand was awake
  have awake : r ≠ asker → (wakeM (N.hands r) w s).1.waker ≠ none := fun q => by
    rw [wake_waker_eq, I.flag r hr]
    split
    · rename_i h
      rcases h with h | h
      · subst h
        rcases owned r hr own1 with e | e
        · exact absurd e q
        · exact e
      · simp [q] at h
        intro e; rw [e] at h; cases h
    · simp
  have idle' : r ≠ asker → (comeM (N.hands r) w s).1.waker = none → (comeM (N.hands r) w s).1.owed = 0 := fun q e => come_none _ _ _ (awake q) e
  have root' : r = asker → (comeM (N.hands r) w s).1.waker = none := fun q => by
    rcases come_waker (N.hands r) w s with e | ⟨_, e⟩
    · exact e
    · rw [e, wake_waker_eq, I.flag r hr]
      simp [q]; exact I.root
  refine ⟨I.asks, fun h hh => ?_, fun h hh => ?_, fun h hh => ?_, fun h hh => ?_, fun t ht => ?_, newOwed, ?_, fun x hx q e => ?_, fun x hx e => ?_, ?_⟩
  · by_cases q : h = r
    · subst q; show (upd N.hands h _ h).num = h; rw [upr, sm.num]; exact hnum
    · show (upd N.hands r _ h).num = h; rw [up h q]; exact I.num h hh
  · by_cases q : h = r
    · subst q; show (upd N.hands h _ h).asker = _; rw [upr, sm.asker]; exact I.flag h hh
    · show (upd N.hands r _ h).asker = _; rw [up h q]; exact I.flag h hh
  · by_cases q : h = r
    · subst q; show ∀ x ∈ (upd N.hands h _ h).others, _; rw [upr, sm.others]; exact I.oth h hh
    · show ∀ x ∈ (upd N.hands r _ h).others, _; rw [up h q]; exact I.oth h hh
  · by_cases q : h = r
    · subst q; show ∀ x ∈ (upd N.hands h _ h).askers, _; rw [upr]
      intro x hx
      rcases come_askers hx with rfl | q
      · exact hs
      · exact I.askers h hh x q
    · show ∀ x ∈ (upd N.hands r _ h).askers, _; rw [up h q]; exact I.askers h hh
  · rcases List.mem_append.mp ht with q | q
    · exact I.row t (List.mem_of_mem_eraseIdx q)
    · obtain ⟨a, b⟩ := come_out q
      refine ⟨by rw [a, hnum]; exact hr, ?_⟩
      rcases b with b | b | b | b
      · rw [b]; exact hs
      · exact I.oth r hr _ b
      · exact I.askers r hr _ b
      · exact I.waker_lt hr b
  · by_cases q : asker = r
    · show (upd N.hands r _ asker).waker = none; rw [q, upr]; exact root' q.symm
    · show (upd N.hands r _ asker).waker = none; rw [up _ q]; exact I.root
  · by_cases h : x = r
    · subst h; show (upd N.hands x _ x).owed = 0; rw [upr]
      have e : (upd N.hands x _ x).waker = none := e
      rw [upr] at e; exact idle' q e
    · show (upd N.hands r _ x).owed = 0; rw [up x h]
      have e : (upd N.hands r _ x).waker = none := e
      rw [up x h] at e; exact I.idle x hx q e
  · by_cases h : x = r
    · subst h; show (upd N.hands x _ x).owed ≠ 0; rw [upr]
      have e : (upd N.hands x _ x).waker ≠ none := e
      rw [upr] at e
      rcases come_waker (N.hands x) w s with q | ⟨q, _⟩
      · exact absurd q e
      · exact q
    · show (upd N.hands r _ x).owed ≠ 0; rw [up x h]
      have e : (upd N.hands r _ x).waker ≠ none := e
      rw [up x h] at e; exact I.busy x hx e
  · obtain ⟨l, hc, hl, hm⟩ := I.tree
    show ∃ l, Chain (fun x => (upd N.hands r (comeM (N.hands r) w s).1 x).waker) asker l ∧ (∀ x ∈ l, x < n) ∧ ∀ x < n, (upd N.hands r (comeM (N.hands r) w s).1 x).waker ≠ none → x ∈ l
    by_cases q : r = asker
    · -- the asker has no waker, before and after
      have hrl : r ∉ l := by
        intro h
        have : ∀ l, Chain (fun x => (N.hands x).waker) asker l → r ∈ l → False := by
          intro l hc
          induction hc with
          | nil => intro h; cases h
          | cons h hx ha hw hl ih => intro hr; cases hr with
            | head => exact ha q
            | tail _ hr => exact ih hr
        exact this l hc h
      refine ⟨l, hc.congr fun x hx => ?_, hl, fun x hx e => ?_⟩
      · rw [up x (fun e => hrl (e ▸ hx))]
      · by_cases h : x = r
        · subst h; rw [upr, root' q] at e; exact absurd rfl e
        · rw [up x h] at e; exact hm x hx e
    · cases hb : (N.hands r).waker with
      | none =>
        have hrl : r ∉ l := by
          intro h
          have : ∀ l, Chain (fun x => (N.hands x).waker) asker l → r ∈ l → False := by
            intro l hc
            induction hc with
            | nil => intro h; cases h
            | cons h hx ha hw hl ih => intro hr; cases hr with
              | head => rw [hb] at hw; cases hw
              | tail _ hr => exact ih hr
          exact this l hc h
        have hc' : Chain (fun x => (upd N.hands r (comeM (N.hands r) w s).1 x).waker) asker l := hc.congr fun x hx => by rw [up x (fun e => hrl (e ▸ hx))]
        rcases come_waker (N.hands r) w s with e1 | ⟨_, e1⟩
        · refine ⟨l, hc', hl, fun x hx e => ?_⟩
          by_cases h : x = r
          · subst h; rw [upr, e1] at e; exact absurd rfl e
          · rw [up x h] at e; exact hm x hx e
        · have hnb : w ≠ .back := fun e => by
            subst e
            rcases owned r hr own1 with e | e
            · exact q e
            · exact e hb
          have e2 : (comeM (N.hands r) w s).1.waker = some s := by
            rw [e1, wake_waker_eq, hb, I.flag r hr]; simp [q, hnb]
          have hso : 0 < cL N.row s := by simpa [ownL, hnb] using own1
          refine ⟨r :: l, .cons hc' hrl q (by show (upd N.hands r _ r).waker = some s; rw [upr]; exact e2) ?_, ?_, fun x hx e => ?_⟩
          · rcases owned s hs hso with e | e
            · exact .inl e
            · exact .inr (hm s hs e)
          · intro x hx; cases hx with
            | head => exact hr
            | tail _ hx => exact hl x hx
          · by_cases h : x = r
            · subst h; exact .head _
            · rw [up x h] at e; exact .tail _ (hm x hx e)
      | some u =>
        rcases come_waker (N.hands r) w s with e1 | ⟨_, e1⟩
        · -- it goes to sleep: nobody leans on it
          have h0 := idle' q e1
          have h1 := newOwed r hr
          rw [upr, h0] at h1
          have h2 := wkN_nonneg n (upd N.hands r (comeM (N.hands r) w s).1) r
          have h3 := cL_nonneg (N.row.eraseIdx p ++ (comeM (N.hands r) w s).2) r
          have none' : ∀ x < n, x ≠ r → (N.hands x).waker ≠ some r := fun x hx hne e => by
            have := wkN_pos (f := upd N.hands r (comeM (N.hands r) w s).1) (x := r) hx (by rw [up x hne]; exact e)
            omega
          have self' : (N.hands r).waker ≠ some r := fun e => by
            -- its own waker is older
            have hrl := hm r hr (by rw [hb]; simp)
            have : ∀ l, Chain (fun x => (N.hands x).waker) asker l → r ∈ l → False := by
              intro l hc
              induction hc with
              | nil => intro h; cases h
              | @cons y v l h hx ha hw hl ih => intro hr; cases hr with
                | head =>
                  rw [e] at hw; cases hw
                  rcases hl with q' | q'
                  · exact q q'
                  · exact hx q'
                | tail _ hr => exact ih hr
            exact this l hc hrl
          have hcd := hc.drop (r := r) (fun x hx => by
            by_cases h : x = r
            · subst h; exact self'
            · exact none' x (hl x hx) h) q
          refine ⟨_, hcd.congr fun x hx => ?_, fun x hx => hl x (List.mem_filter.mp hx).1, fun x hx e => ?_⟩
          · have : x ≠ r := by simpa using (List.mem_filter.mp hx).2
            rw [up x this]
          · by_cases h : x = r
            · subst h; rw [upr, e1] at e; exact absurd rfl e
            · rw [up x h] at e; exact List.mem_filter.mpr ⟨hm x hx e, by simpa using h⟩
        · have e2 : (comeM (N.hands r) w s).1.waker = (N.hands r).waker := by
            rw [e1, wake_waker_eq, hb]; simp
          refine ⟨l, hc.congr fun x hx => ?_, hl, fun x hx e => ?_⟩
          · by_cases h : x = r
            · subst h; rw [upr, e2]
            · rw [up x h]
          · by_cases h : x = r
            · subst h; exact hm x hx (by rw [hb]; simp)
            · rw [up x h] at e; exact hm x hx e

theorem Inv7.start (W : List (Option (Bool × List Nat))) (asker : Nat) (ha : asker < W.length) (hW : ∀ w ∈ W, ∀ b l, w = some (b, l) → ∀ x ∈ l, x < W.length) : Inv7 W.length asker (netM W asker) := by
  have oth : ∀ h < W.length, ∀ x ∈ (startM W asker h).others, x < W.length := by
    intro h hh x hx
    unfold startM initM HandM.others at hx
    dsimp only at hx
    split at hx
    · cases hx
    · rename_i b l e
      have : W.getD h none ∈ W := by simp [List.getD_eq_getElem?_getD, hh]
      exact hW _ this b l e x hx
  have up : ∀ h, h ≠ asker → (netM W asker).hands h = startM W asker h := fun h q => if_neg q
  have upa : (netM W asker).hands asker = (beginM (startM W asker asker)).1 := if_pos rfl
  have sm := begin_same (startM W asker asker)
  have wk0 : ∀ h, ((netM W asker).hands h).waker = none := fun h => by
    by_cases q : h = asker
    · subst q; rw [upa]; unfold beginM; split <;> rfl
    · rw [up h q]; rfl
  have wkz : ∀ x, wkN W.length (netM W asker).hands x = 0 := fun x => by
    unfold wkN
    have : (List.range W.length).countP (fun h => decide (((netM W asker).hands h).waker = some x)) = 0 := by
      rw [List.countP_eq_zero]; intro h _; simp [wk0]
    rw [this]; rfl
  have bal : ∀ x, cL (netM W asker).row x = if x = asker then (beginM (startM W asker asker)).1.owed else 0 := fun x => by
    show cL (beginM (startM W asker asker)).2 x = _
    unfold beginM
    split
    · rw [cL_nil]; split <;> rfl
    · rw [cL_send _ _ (by simp)]
      show (if x = asker then _ else _) = if x = asker then (0 : Int) + _ else 0
      split <;> simp
  refine ⟨ha, fun h hh => ?_, fun h hh => ?_, fun h hh => ?_, fun h hh => ?_, fun t ht => ?_, fun x hx => ?_, wk0 _, fun x hx q _ => ?_, fun x hx e => absurd (wk0 x) e, [], .nil, (fun _ hx => nomatch hx), fun x hx e => absurd (wk0 x) e⟩
  · by_cases q : h = asker
    · subst q; rw [upa, sm.num]; rfl
    · rw [up h q]; rfl
  · by_cases q : h = asker
    · subst q; rw [upa, sm.asker]; rfl
    · rw [up h q]; rfl
  · by_cases q : h = asker
    · subst q; rw [upa, sm.others]; exact oth h hh
    · rw [up h q]; exact oth h hh
  · by_cases q : h = asker
    · subst q; rw [upa, (begin_sizes _).1]; intro x hx; cases hx
    · rw [up h q]; intro x hx; cases hx
  · obtain ⟨a, _, c⟩ := begin_out ht
    refine ⟨by rw [a]; exact ha, oth _ ha _ c⟩
  · rw [wkz, bal]
    by_cases q : x = asker
    · subst q; rw [upa]; simp
    · rw [up x q]; simp [q]; rfl
  · rw [up x q]; rfl
end Mine

set_option Elab.async false
set_option linter.unusedVariables false
namespace Mine
open PySem PySem.W PyProof.Rows

/- sizes along the turns -/
theorem WsOk.lts {W : List Wt} (h : WsOk W) : ∀ w ∈ W, ∀ b l, w = some (b, l) → ∀ x ∈ l, x < W.length := fun w hw b l e => by
  have := h.2.2 w hw; rw [e] at this; exact this.2.2.1
/- lists of numbers, one for each hand -/
end Mine

set_option Elab.async false
set_option linter.unusedVariables false
namespace Mine

def alf (m : HandM) (x : Nat) : Int := if m.freed = true then 0 else (m.askers.count x : Nat)
def eta (m : HandM) (x : Nat) : Int := (m.heard.count x : Nat)
def gam (m : HandM) (x : Nat) : Int := if m.has = true then (m.others.count x : Nat) else 0
def cT (l : List Lt) (t : Lt) : Int := (l.count t : Nat)
def ind (p : Prop) [Decidable p] : Int := if p then 1 else 0
theorem cT_append (l l' : List Lt) (t : Lt) : cT (l ++ l') t = cT l t + cT l' t := by unfold cT; rw [List.count_append]; omega
theorem cT_nil (t : Lt) : cT [] t = 0 := rfl
theorem cT_one (u t : Lt) : cT [u] t = ind (u = t) := by
  unfold cT ind; simp only [List.count_cons, List.count_nil]
  by_cases h : u = t <;> simp [h]
theorem cT_map (w : LW) (h : Nat) (l : List Nat) (t : Lt) : cT (l.map fun x => (w, h, x)) t = if t.1 = w ∧ t.2.1 = h then (l.count t.2.2 : Nat) else 0 := by
  obtain ⟨w', a, b⟩ := t
  induction l with
  | nil => simp [cT]
  | cons y l ih =>
    rw [List.map_cons, show (w, h, y) :: l.map (fun x => (w, h, x)) = [(w, h, y)] ++ l.map (fun x => (w, h, x)) from rfl, cT_append, cT_one, ih]
    have key : ind ((w, h, y) = (w', a, b)) = if w' = w ∧ a = h then (if y = b then 1 else 0) else 0 := by
      unfold ind; simp only [Prod.mk.injEq]
      by_cases h1 : w' = w
      · by_cases h2 : a = h
        · subst h1; subst h2; simp
        · have : ¬ h = a := fun e => h2 e.symm
          simp [h2, this]
      · have : ¬ w = w' := fun e => h1 e.symm
        simp [h1, this]
    rw [key]
    simp only
    split
    · simp only [List.count_cons]
      by_cases h3 : y = b <;> simp [h3]; omega
    · omega
theorem count_snoc (l : List Nat) (s x : Nat) : ((l ++ [s]).count x : Nat) = l.count x + if s = x then 1 else 0 := by
  rw [List.count_append]; simp only [List.count_cons, List.count_nil]
  by_cases h : s = x <;> simp [h]
theorem count_cons' (l : List Nat) (s x : Nat) : ((s :: l).count x : Nat) = l.count x + if s = x then 1 else 0 := by
  simp only [List.count_cons]
  by_cases h : s = x <;> simp [h]

/-- letters to x that bear on x's asks of this hand; this hand's own asks -/
structure Bal (m m' : HandM) (fl : List Lt) (w : LW) (s : Nat) : Prop where
  f : ∀ x, cT fl (.freed, m.num, x) + alf m' x = alf m x + ind (w = .ask ∧ x = s)
  a : ∀ x, cT fl (.ask, m.num, x) + eta m' x + gam m x = eta m x + ind (w = .freed ∧ x = s) + gam m' x

theorem send_cT (m w l t) : cT (sendM m w l).2 t = if t.1 = w ∧ t.2.1 = m.num then (l.count t.2.2 : Nat) else 0 := cT_map ..
theorem mid_bal2 (m : HandM) (w : LW) (s : Nat) : Bal m (midM m w s).1 (midM m w s).2 w s := by
  have i1 : ∀ x, ind (LW.ask = LW.ask ∧ x = s) = if s = x then 1 else 0 := fun x => by unfold ind; simp [eq_comm]
  have i2 : ∀ x, ind (LW.freed = LW.freed ∧ x = s) = if s = x then 1 else 0 := fun x => by unfold ind; simp [eq_comm]
  have i3 : ∀ x, ind (LW.freed = LW.ask ∧ x = s) = 0 := fun x => by unfold ind; simp
  have i4 : ∀ x, ind (LW.ask = LW.freed ∧ x = s) = 0 := fun x => by unfold ind; simp
  have i5 : ∀ x, ind (LW.back = LW.freed ∧ x = s) = 0 := fun x => by unfold ind; simp
  have i6 : ∀ x, ind (LW.back = LW.ask ∧ x = s) = 0 := fun x => by unfold ind; simp
  cases w
  · show Bal m (askedM m s).1 (askedM m s).2 .ask s
    unfold askedM
    split
    · rename_i hf
      refine ⟨fun x => ?_, fun x => ?_⟩
      · rw [send_cT, i1]; simp only [alf, sendM, hf, if_true, and_self, List.count_cons, List.count_nil]
        by_cases h : s = x <;> simp [h]
      · rw [send_cT, i4]; simp [eta, gam, sendM, HandM.others]
    · rename_i hf
      have hf : m.freed = false := by simpa using hf
      split
      · rename_i hh
        refine ⟨fun x => ?_, fun x => ?_⟩
        · rw [cT_nil, i1]; simp only [alf, hf]; rw [if_neg (by decide), if_neg (by decide), count_snoc]; split <;> omega
        · rw [cT_nil, i4]; simp [eta, gam, HandM.others]
      · rename_i hh
        have hh : m.has = false := by simpa using hh
        unfold beginM
        rw [if_neg (by simp [hf])]
        refine ⟨fun x => ?_, fun x => ?_⟩
        · rw [send_cT, i1]; simp only [alf, sendM, hf]; rw [if_neg (by simp), if_neg (by decide), if_neg (by decide), count_snoc]; split <;> omega
        · rw [send_cT, i4]; simp [eta, gam, sendM, hh, HandM.others]; omega
  · show Bal m (toldM m s).1 (toldM m s).2 .freed s
    unfold toldM
    split
    · rename_i hf
      refine ⟨fun x => ?_, fun x => ?_⟩
      · rw [cT_nil, i3]; simp [alf, hf]
      · rw [cT_nil, i2]; simp only [eta, gam, HandM.others]; rw [count_cons']; split <;> split <;> omega
    · rename_i hf
      have hf : m.freed = false := by simpa using hf
      split
      · refine ⟨fun x => ?_, fun x => ?_⟩
        · rw [cT_nil, i3]; simp [alf, hf]
        · rw [cT_nil, i2]; simp only [eta, gam, HandM.others]; rw [count_cons']; split <;> split <;> omega
      · refine ⟨fun x => ?_, fun x => ?_⟩
        · rw [send_cT, i3]; simp [alf, sendM, hf]
        · rw [send_cT, i2, if_neg (by simp)]
          show 0 + (((s :: m.heard).count x : Nat) : Int) + gam m x = ((m.heard.count x : Nat) : Int) + _ + gam m x
          rw [count_cons']; split <;> omega
  · show Bal m m [] .back s
    exact ⟨fun x => by rw [cT_nil, i6]; omega, fun x => by rw [cT_nil, i5]; omega⟩

structure SameB (m m' : HandM) : Prop where
  freed : m'.freed = m.freed
  askers : m'.askers = m.askers
  heard : m'.heard = m.heard
  has : m'.has = m.has
theorem wake_sameB (m w s) : SameB m (wakeM m w s).1 := by
  unfold wakeM; split
  · exact ⟨rfl, rfl, rfl, rfl⟩
  · split <;> exact ⟨rfl, rfl, rfl, rfl⟩
theorem end_sameB (m fl) : SameB m (endM m fl).1 := by
  unfold endM; split
  · split <;> exact ⟨rfl, rfl, rfl, rfl⟩
  · exact ⟨rfl, rfl, rfl, rfl⟩
theorem cT_wake (m w s) (t : Lt) (ht : t.1 ≠ .back) : cT (wakeM m w s).2 t = 0 := by
  unfold cT
  have : (wakeM m w s).2.count t = 0 := by
    rw [List.count_eq_zero]; intro h
    rw [(wake_out h).1] at ht; exact ht rfl
  rw [this]; rfl
theorem cT_end (m fl) (t : Lt) (ht : t.1 ≠ .back) : cT (endM m fl).2 t = cT fl t := by
  unfold endM
  split
  · rename_i u hu
    split
    · rw [cT_append, cT_one]
      have : ¬ ((LW.back, m.num, u) = t) := fun e => ht (by rw [← e])
      unfold ind; rw [if_neg this]; omega
    · rfl
  · rfl
theorem come_bal2 (m : HandM) (w : LW) (s : Nat) : Bal m (comeM m w s).1 (comeM m w s).2 w s := by
  have b := mid_bal2 (wakeM m w s).1 w s
  have sa := wake_same m w s
  have sb := wake_sameB m w s
  have se := end_sameB (midM (wakeM m w s).1 w s).1 ((wakeM m w s).2 ++ (midM (wakeM m w s).1 w s).2)
  have so := (end_same (midM (wakeM m w s).1 w s).1 ((wakeM m w s).2 ++ (midM (wakeM m w s).1 w s).2)).others
  have oo := sa.others
  have al : ∀ x, alf (wakeM m w s).1 x = alf m x := fun x => by unfold alf; rw [sb.freed, sb.askers]
  have et : ∀ x, eta (wakeM m w s).1 x = eta m x := fun x => by unfold eta; rw [sb.heard]
  have ga : ∀ x, gam (wakeM m w s).1 x = gam m x := fun x => by unfold gam; rw [sb.has, oo]
  have al' : ∀ x, alf (comeM m w s).1 x = alf (midM (wakeM m w s).1 w s).1 x := fun x => by unfold alf comeM; rw [se.freed, se.askers]
  have et' : ∀ x, eta (comeM m w s).1 x = eta (midM (wakeM m w s).1 w s).1 x := fun x => by unfold eta comeM; rw [se.heard]
  have ga' : ∀ x, gam (comeM m w s).1 x = gam (midM (wakeM m w s).1 w s).1 x := fun x => by unfold gam comeM; rw [se.has, so]
  have ct : ∀ t : Lt, t.1 ≠ .back → cT (comeM m w s).2 t = cT (midM (wakeM m w s).1 w s).2 t := fun t ht => by
    unfold comeM; rw [cT_end _ _ _ ht, cT_append, cT_wake _ _ _ _ ht]; omega
  refine ⟨fun x => ?_, fun x => ?_⟩
  · have := b.f x
    rw [sa.num, al x] at this
    rw [ct _ (by simp), al' x]; exact this
  · have := b.a x
    rw [sa.num, et x, ga x] at this
    rw [ct _ (by simp), et' x, ga' x]; exact this

def tee (M : NetM) (r s : Nat) : Int := cT M.row (.ask, r, s) + alf (M.hands s) r + cT M.row (.freed, s, r) + eta (M.hands r) s
structure InvT (n : Nat) (M : NetM) : Prop where
  num : ∀ h < n, (M.hands h).num = h
  row : ∀ t ∈ M.row, t.2.1 < n ∧ t.2.2 < n
  nd : ∀ h < n, (M.hands h).others.Nodup
  tee : ∀ r < n, ∀ s < n, tee M r s = gam (M.hands r) s
theorem cT_erase {l : List Lt} {p : Nat} {t : Lt} (h : l[p]? = some t) (x : Lt) : cT l x = cT (l.eraseIdx p) x + ind (t = x) := by
  induction l generalizing p with
  | nil => simp at h
  | cons y l ih =>
    have c : ∀ (l : List Lt) (y : Lt), cT (y :: l) x = cT l x + ind (y = x) := fun l y => by
      show cT ([y] ++ l) x = _
      rw [cT_append, cT_one]; omega
    cases p with
    | zero => simp at h; subst h; rw [c]; rfl
    | succ p =>
      have h : l[p]? = some t := by simpa using h
      rw [List.eraseIdx_cons_succ, c, c, ih h]; omega
theorem cT_out_ne {m w s} {t : Lt} (h : t.2.1 ≠ m.num) : cT (comeM m w s).2 t = 0 := by
  unfold cT
  have : (comeM m w s).2.count t = 0 := by
    rw [List.count_eq_zero]; intro q; exact h (come_out q).1
  rw [this]; rfl
theorem alf_nonneg (m x) : 0 ≤ alf m x := by unfold alf; split <;> omega
theorem eta_nonneg (m x) : 0 ≤ eta m x := by unfold eta; omega
theorem cT_nonneg (l t) : 0 ≤ cT l t := by unfold cT; omega

theorem InvT.bring {n asker M} (J : Inv7 n asker M) (I : InvT n M) (p : Nat) : InvT n (bringM M p).1 := by
  have J' := J.bring p
  refine ⟨J'.num, J'.row, fun h hh => ?_, ?_⟩
  · unfold bringM
    split
    · exact I.nd h hh
    · rename_i w s r hp
      dsimp only
      by_cases q : h = r
      · subst q; simp only [upd, if_true]; rw [(come_same _ _ _).others]; exact I.nd h hh
      · simp only [upd, q, if_false]; exact I.nd h hh
  · unfold bringM
    split
    · exact I.tee
    · rename_i w s h hp
      dsimp only
      have hmem := List.mem_of_getElem? hp
      obtain ⟨hs, hh⟩ := I.row _ hmem
      have hs : s < n := hs
      have hh : h < n := hh
      have hn := I.num h hh
      have B := come_bal2 (M.hands h) w s
      have up : ∀ x, x ≠ h → upd M.hands h (comeM (M.hands h) w s).1 x = M.hands x := fun x q => if_neg q
      have upr : upd M.hands h (comeM (M.hands h) w s).1 h = (comeM (M.hands h) w s).1 := if_pos rfl
      intro r hr s' hs'
      have T0 := I.tee r hr s' hs'
      unfold Mine.tee at T0 ⊢
      dsimp only
      rw [cT_append, cT_append]
      have e1 := cT_erase hp (.ask, r, s')
      have e2 := cT_erase hp (.freed, s', r)
      have g1 : ∀ x y, x ≠ h → cT (comeM (M.hands h) w s).2 (.ask, x, y) = 0 := fun x y q => cT_out_ne (by rw [hn]; exact q)
      have g2 : ∀ x y, x ≠ h → cT (comeM (M.hands h) w s).2 (.freed, x, y) = 0 := fun x y q => cT_out_ne (by rw [hn]; exact q)
      have Bf := B.f r
      have Ba := B.a s'
      rw [hn] at Bf Ba
      have d1 : ind ((w, s, h) = (LW.ask, r, s')) = if s' = h then ind (w = .ask ∧ r = s) else 0 := by
        unfold ind; simp only [Prod.mk.injEq]
        by_cases a1 : w = .ask <;> by_cases a2 : s = r <;> by_cases a3 : h = s' <;> simp [a1, a2, a3, eq_comm] <;> (intros; exact absurd (by assumption) (fun e => a2 e.symm))
      have d2 : ind ((w, s, h) = (LW.freed, s', r)) = if r = h then ind (w = .freed ∧ s' = s) else 0 := by
        unfold ind; simp only [Prod.mk.injEq]
        by_cases a1 : w = .freed <;> by_cases a2 : s = s' <;> by_cases a3 : h = r <;> simp [a1, a2, a3, eq_comm] <;> (intros; exact absurd (by assumption) (fun e => a2 e.symm))
      rw [d1] at e1
      rw [d2] at e2
      by_cases q1 : r = h
      · by_cases q2 : s' = h
        · subst q1; subst q2
          rw [upr]; simp only [if_true] at e1 e2
          omega
        · subst q1
          rw [upr, up s' q2, g2 s' r q2]; simp only [if_true, q2, if_false] at e1 e2
          omega
      · by_cases q2 : s' = h
        · subst q2
          rw [upr, up r q1, g1 r s' q1]; simp only [if_true, q1, if_false] at e1 e2
          omega
        · rw [up r q1, up s' q2, g1 r s' q1, g2 s' r q2]; simp only [q1, q2, if_false] at e1 e2
          omega

theorem InvT.start (W : List (Option (Bool × List Nat))) (asker : Nat) (ha : asker < W.length) (hW : ∀ w ∈ W, ∀ b l, w = some (b, l) → (∀ x ∈ l, x < W.length)) (hN : ∀ w ∈ W, ∀ b l, w = some (b, l) → l.Nodup) : InvT W.length (netM W asker) := by
  have J := Inv7.start W asker ha hW
  have nd : ∀ h < W.length, (startM W asker h).others.Nodup := by
    intro h hh
    unfold startM initM HandM.others
    dsimp only
    split
    · exact List.nodup_nil
    · rename_i b l e
      have : W.getD h none ∈ W := by simp [List.getD_eq_getElem?_getD, hh]
      exact hN _ this b l e
  have up : ∀ h, h ≠ asker → (netM W asker).hands h = startM W asker h := fun h q => if_neg q
  have upa : (netM W asker).hands asker = (beginM (startM W asker asker)).1 := if_pos rfl
  have sm := begin_same (startM W asker asker)
  have sz := begin_sizes (startM W asker asker)
  refine ⟨J.num, J.row, fun h hh => ?_, fun r hr s hs => ?_⟩
  · by_cases q : h = asker
    · subst q; rw [upa, sm.others]; exact nd h hh
    · rw [up h q]; exact nd h hh
  · have a0 : ∀ x, alf ((netM W asker).hands x) r = 0 := fun x => by
      by_cases q : x = asker
      · subst q; rw [upa]; unfold alf; rw [sz.1]; split <;> rfl
      · rw [up x q]; unfold alf; split <;> rfl
    have h0 : ∀ x, eta ((netM W asker).hands x) s = 0 := fun x => by
      by_cases q : x = asker
      · subst q; rw [upa]; unfold eta; rw [sz.2.1]; rfl
      · rw [up x q]; rfl
    have f0 : cT (netM W asker).row (.freed, s, r) = 0 := by
      unfold cT
      have : (netM W asker).row.count (.freed, s, r) = 0 := by
        rw [List.count_eq_zero]; intro q
        have := (begin_out q).2.1
        cases this
      rw [this]; rfl
    unfold Mine.tee
    rw [a0, h0, f0]
    by_cases q : r = asker
    · subst q
      rw [upa]
      show cT (beginM (startM W r r)).2 (.ask, r, s) + 0 + 0 + 0 = _
      unfold beginM
      split
      · rw [cT_nil]; rfl
      · rw [send_cT]
        rw [if_pos ⟨rfl, rfl⟩]
        unfold gam
        rw [if_pos (by rfl)]
        simp [sendM, HandM.others]
    · rw [up r q]
      have : cT (netM W asker).row (.ask, r, s) = 0 := by
        unfold cT
        have : (netM W asker).row.count (.ask, r, s) = 0 := by
          rw [List.count_eq_zero]; intro z
          exact q (begin_out z).1
        rw [this]; rfl
      rw [this]; rfl
end Mine

set_option Elab.async false
set_option linter.unusedVariables false
namespace Mine
open PySem PySem.W PyProof.Rows
variable {C : Cx} {k : Nat} {K : Frag} {env : Env} {ρ : Rho} {H H' : Hp} {Q R : V → Hp → Prop} {QH : Hp → Prop} {m m' : HandM}

/- letters as data -/
/- the mirror's dicts -/
variable {B : MA}
end Mine

set_option Elab.async false
set_option linter.unusedVariables false
namespace Mine
open PySem PySem.W PyProof.Rows
variable {C : Cx} {k : Nat} {K : Frag} {env : Env} {ρ : Rho} {H H' : Hp} {Q R : V → Hp → Prop} {QH : Hp → Prop} {m m' : HandM}

def refsV (ad : Nat → Addr) (n : Nat) : List V := (List.range n).map fun k => .ref (ad k)
def gR (ad : Nat → Addr) (n : Nat) (f : Nat → Option V) : V → Option V
  | .ref a => ((List.range n).find? fun k => decide (ad k = a)).bind f
  | _ => none
theorem gR_ref {ad : Nat → Addr} {n : Nat} {f : Nat → Option V} {j : Nat} (hj : j < n) (inj : ∀ i k, i < n → k < n → ad i = ad k → i = k) : gR ad n f (.ref (ad j)) = f j := by
  unfold gR
  dsimp only
  have : (List.range n).find? (fun k => decide (ad k = ad j)) = some j := by
    cases h : (List.range n).find? (fun k => decide (ad k = ad j)) with
    | none =>
      rw [List.find?_eq_none] at h
      exact absurd (h j (by simpa using hj)) (by simp)
    | some i =>
      have h1 := List.find?_some h
      have h2 := List.mem_of_find?_eq_some h
      rw [inj i j (by simpa using h2) hj (by simpa using h1)]
  rw [this]; rfl
theorem fm_congr {α β : Type} {f g : α → Option β} : ∀ {l : List α}, (∀ x ∈ l, f x = g x) → l.filterMap f = l.filterMap g
  | [], _ => rfl
  | x :: l, h => by
    rw [List.filterMap_cons, List.filterMap_cons, h x (.head _), fm_congr fun y hy => h y (.tail _ hy)]
theorem fm_refs {ad : Nat → Addr} {n : Nat} {f : Nat → Option V} (inj : ∀ i k, i < n → k < n → ad i = ad k → i = k) : (refsV ad n).filterMap (gR ad n f) = (List.range n).filterMap f := by
  unfold refsV
  rw [List.filterMap_map]
  refine fm_congr fun x hx => ?_
  exact gR_ref (by simpa using hx) inj
theorem NetRep.inj {cH cN : Addr} {N : NAd} {As : Nat → HA} {n asker : Nat} {M : NetM} (r : NetRep cH cN H N As n asker M) : ∀ i k, i < n → k < n → (As i).i = (As k).i → i = k := fun i k hi hk e => by
  by_cases q : i = k
  · exact q
  · have h1 := (r.hands i hi).i
    have h2 := (r.hands k hk).i
    rw [e, h2] at h1
    injection h1 with h1
    injection h1 with _ h1
    exact absurd h1.symm (r.sd i k hi hk q).1
theorem hrefs_refs (As : Nat → HA) (n : Nat) : hrefs As n = refsV (fun k => (As k).i) n := rfl
theorem fm_filt (p : Nat → Bool) (g : Nat → Nat) (l : List Nat) : l.filterMap (fun k => if p k = true then some (nv (g k)) else none) = ((l.filter p).map g).map nv := by
  induction l with
  | nil => rfl
  | cons x l ih =>
    rw [List.filterMap_cons, List.filter_cons]
    by_cases h : p x = true
    · simp only [h, if_true, List.map_cons, ih]
    · simp only [h, if_false]; exact ih
end Mine

set_option Elab.async false
set_option linter.unusedVariables false
namespace Mine

theorem come_heard (m w s) : (comeM m w s).1.heard = if w = .freed then s :: m.heard else m.heard := by
  unfold comeM
  rw [(end_sizes _ _).2.1]
  have h := (wake_sizes m w s).2.1
  cases w
  · show (askedM _ s).1.heard = _
    unfold askedM; split
    · exact h
    · split
      · exact h
      · rw [(begin_sizes _).2.1]; exact h
  · show (toldM _ s).1.heard = _
    unfold toldM; split
    · show s :: _ = _; rw [h]; rfl
    · split
      · show s :: _ = _; rw [h]; rfl
      · show s :: _ = _; rw [h]; rfl
  · exact h
/- the letters that may come -/
end Mine

set_option Elab.async false
set_option linter.unusedVariables false
namespace Mine
open PySem PySem.W PyProof.Rows
variable {C : Cx} {k : Nat} {K : Frag} {env : Env} {ρ : Rho} {H H' : Hp} {Q R : V → Hp → Prop} {QH : Hp → Prop} {m m' : HandM}

/- a tuple's end: t[n:] -/
/- remove a number -/
/- letters, self-letters -/
/- the law's own record -/
variable {B : SA} {st st' : S5} {wd : Str}
end Mine

set_option Elab.async false
set_option linter.unusedVariables false
namespace Mine
open PySem PySem.W PySem.SeqAt PySem.Spec PyProof.Rows
variable {C : Cx} {k : Nat} {env : Env} {ρ : Rho} {H : Hp} {Q R : V → Hp → Prop}

/- lists besides a net -/
variable {cH cN : Addr} {N : NAd} {As : Nat → HA} {n asker : Nat} {M M' : NetM} {H' : Hp} {x : Addr} {l : List V}
end Mine

set_option Elab.async false
set_option linter.unusedVariables false
namespace Mine

def wkI (m : HandM) (x : Nat) : Int := ind (m.waker = some x)
theorem wkI_nonneg (m x) : 0 ≤ wkI m x := by unfold wkI ind; split <;> omega
theorem come_heard6 (m : HandM) (w : LW) (s x : Nat) : eta (comeM m w s).1 x = eta m x + ind (w = .freed ∧ x = s) := by
  have se := end_sameB (midM (wakeM m w s).1 w s).1 ((wakeM m w s).2 ++ (midM (wakeM m w s).1 w s).2)
  have sb := wake_sameB m w s
  have key : ∀ m : HandM, eta (midM m w s).1 x = eta m x + ind (w = .freed ∧ x = s) := by
    intro m
    cases w
    · show eta (askedM m s).1 x = _
      have e : (askedM m s).1.heard = m.heard := by
        unfold askedM; split
        · rfl
        · split
          · rfl
          · exact (begin_sizes _).2.1
      unfold eta ind; rw [e]; simp
    · show eta (toldM m s).1 x = _
      have e : (toldM m s).1.heard = s :: m.heard := by
        unfold toldM; split
        · rfl
        · split <;> rfl
      unfold eta ind; rw [e, count_cons']
      by_cases h : s = x
      · simp [h]
      · have : ¬ x = s := fun e => h e.symm
        simp [h, this]
    · show eta m x = _
      unfold ind; simp
  have : eta (comeM m w s).1 x = eta (midM (wakeM m w s).1 w s).1 x := by unfold eta comeM; rw [se.heard]
  rw [this, key]
  have : eta (wakeM m w s).1 x = eta m x := by unfold eta; rw [sb.heard]
  rw [this]
theorem come_ask6 (m : HandM) (w : LW) (s x : Nat) : cT (comeM m w s).2 (.ask, m.num, x) + gam m x = gam (comeM m w s).1 x := by
  have := (come_bal2 m w s).a x
  rw [come_heard6] at this
  omega
theorem cT_mid_back (m w s a b) : cT (midM m w s).2 (.back, a, b) = 0 := by
  unfold cT
  have : (midM m w s).2.count (.back, a, b) = 0 := by
    rw [List.count_eq_zero]; intro h; exact (mid_out h).2.1 rfl
  rw [this]; rfl
theorem come_back6 (m : HandM) (w : LW) (s x : Nat) : cT (comeM m w s).2 (.back, m.num, x) + wkI (comeM m w s).1 x = wkI m x + ind (w ≠ .back ∧ x = s) := by
  have h1 : cT (wakeM m w s).2 (.back, m.num, x) + wkI (wakeM m w s).1 x = wkI m x + ind (w ≠ .back ∧ x = s) := by
    unfold wakeM
    split
    · rename_i h; rw [cT_nil]; unfold wkI ind; simp [h]
    · rename_i h
      split
      · rw [cT_one]; unfold wkI ind; simp [h]
        by_cases q : s = x
        · simp [q]; omega
        · have : ¬ x = s := fun e => q e.symm
          simp [q, this]
      · rename_i h2
        simp only [Bool.or_eq_true, not_or, Bool.not_eq_true, Option.isSome_eq_false_iff, Option.isNone_iff_eq_none] at h2
        rw [cT_nil]; unfold wkI ind; simp [h, h2.2]
        by_cases q : s = x
        · simp [q]
        · have : ¬ x = s := fun e => q e.symm
          simp [q, this]
  have h2 : ∀ (m : HandM) (fl : List Lt), cT (endM m fl).2 (.back, m.num, x) + wkI (endM m fl).1 x = cT fl (.back, m.num, x) + wkI m x := by
    intro m fl
    unfold endM
    split
    · rename_i u hu
      split
      · rw [cT_append, cT_one]; unfold wkI ind; simp [hu]
      · rfl
    · rfl
  unfold comeM
  have h3 := h2 (midM (wakeM m w s).1 w s).1 ((wakeM m w s).2 ++ (midM (wakeM m w s).1 w s).2)
  rw [(mid_same _ w s).num, (wake_same m w s).num] at h3
  rw [h3, cT_append, cT_mid_back]
  have h4 : wkI (midM (wakeM m w s).1 w s).1 x = wkI (wakeM m w s).1 x := by unfold wkI; rw [mid_waker]
  rw [h4]; omega

structure J6 (W : List (Option (Bool × List Nat))) (M : NetM) (S Cm : List Lt) : Prop where
  bal : ∀ t, cT S t = cT Cm t + cT M.row t
  ask : ∀ r < W.length, ∀ s, cT S (.ask, r, s) = gam (M.hands r) s
  fre : ∀ s < W.length, ∀ r, cT S (.freed, s, r) + alf (M.hands s) r = cT Cm (.ask, r, s)
  bac : ∀ s < W.length, ∀ r, cT S (.back, s, r) + wkI (M.hands s) r = cT Cm (.ask, r, s) + cT Cm (.freed, r, s)
  wt : ∀ k < W.length, (M.hands k).wait = W.getD k none
  len : S.length = Cm.length + M.row.length
  many : M.many = S.length
variable {W : List (Option (Bool × List Nat))} {M : NetM} {S Cm : List Lt}
theorem cT_cons (u : Lt) (l : List Lt) (x : Lt) : cT (u :: l) x = cT l x + ind (u = x) := by
  show cT ([u] ++ l) x = _
  rw [cT_append, cT_one]; omega
theorem gam_mem {m : HandM} {x : Nat} (h : 0 < gam m x) : x ∈ m.others := by
  unfold gam at h; split at h
  · exact List.count_pos_iff.mp (by omega)
  · omega
theorem J6.step {n asker} (hn : n = W.length) (I7 : Inv7 n asker M) (J : J6 W M S Cm) {p : Nat} {t : Lt} (hp : M.row[p]? = some t) : J6 W (bringM M p).1 (S ++ (bringM M p).2) (Cm ++ [t]) := by
  obtain ⟨w, s, h⟩ := t
  obtain ⟨hs, hh⟩ := I7.row _ (List.mem_of_getElem? hp)
  have hs : s < n := hs
  have hh : h < n := hh
  have hnum := I7.num h hh
  have eb : bringM M p = (⟨upd M.hands h (comeM (M.hands h) w s).1, M.row.eraseIdx p ++ (comeM (M.hands h) w s).2, M.many + (comeM (M.hands h) w s).2.length⟩, (comeM (M.hands h) w s).2) := by
    unfold bringM; rw [hp]
  rw [eb]
  dsimp only
  have up : ∀ x, x ≠ h → upd M.hands h (comeM (M.hands h) w s).1 x = M.hands x := fun x q => if_neg q
  have upr : upd M.hands h (comeM (M.hands h) w s).1 h = (comeM (M.hands h) w s).1 := if_pos rfl
  have out : ∀ (c : LW) x y, x ≠ h → cT (comeM (M.hands h) w s).2 (c, x, y) = 0 := fun c x y q => cT_out_ne (by rw [hnum]; exact q)
  refine ⟨fun t => ?_, fun r hr y => ?_, fun x hx r => ?_, fun x hx r => ?_, fun k hk => ?_, ?_, ?_⟩
  · have e1 := J.bal t
    have e2 := cT_erase hp t
    rw [cT_append, cT_append, cT_append, cT_one]; omega
  · have e1 := J.ask r hr y
    rw [cT_append]
    by_cases q : r = h
    · subst q
      have e2 := come_ask6 (M.hands r) w s y
      rw [hnum] at e2
      show _ = gam (upd M.hands r _ r) y
      rw [upr]; omega
    · show _ = gam (upd M.hands h _ r) y
      rw [up r q, out _ _ _ q]; omega
  · have e1 := J.fre x hx r
    rw [cT_append, cT_append, cT_one]
    by_cases q : x = h
    · subst q
      have e2 := (come_bal2 (M.hands x) w s).f r
      rw [hnum] at e2
      show _ + alf (upd M.hands x _ x) r = _
      rw [upr]
      have : ind ((w, s, x) = (LW.ask, r, x)) = ind (w = .ask ∧ r = s) := by unfold ind; simp [eq_comm]
      rw [this]; omega
    · show _ + alf (upd M.hands h _ x) r = _
      rw [up x q, out _ _ _ q]
      have : ind ((w, s, h) = (LW.ask, r, x)) = 0 := by
        have q' : ¬ h = x := fun e => q e.symm
        unfold ind; simp [q']
      rw [this]; omega
  · have e1 := J.bac x hx r
    rw [cT_append, cT_append, cT_append, cT_one, cT_one]
    by_cases q : x = h
    · subst q
      have e2 := come_back6 (M.hands x) w s r
      rw [hnum] at e2
      show _ + wkI (upd M.hands x _ x) r = _
      rw [upr]
      have : ind ((w, s, x) = (LW.ask, r, x)) + ind ((w, s, x) = (LW.freed, r, x)) = ind (w ≠ .back ∧ r = s) := by
        unfold ind
        by_cases z : s = r
        · cases w <;> simp [z]
        · have z' : ¬ r = s := fun e => z e.symm
          cases w <;> simp [z, z']
      omega
    · show _ + wkI (upd M.hands h _ x) r = _
      rw [up x q, out _ _ _ q]
      have q' : ¬ h = x := fun e => q e.symm
      have z1 : ind ((w, s, h) = (LW.ask, r, x)) = 0 := by unfold ind; simp [q']
      have z2 : ind ((w, s, h) = (LW.freed, r, x)) = 0 := by unfold ind; simp [q']
      rw [z1, z2]; omega
  · show (upd M.hands h _ k).wait = _
    by_cases q : k = h
    · subst q; rw [upr, (come_same _ _ _).wait]; exact J.wt k hk
    · rw [up k q]; exact J.wt k hk
  · have hl : p < M.row.length := by
      by_cases q : p < M.row.length
      · exact q
      · rw [List.getElem?_eq_none (by omega)] at hp; cases hp
    have := J.len
    simp only [List.length_append, List.length_eraseIdx, hl, if_true, List.length_singleton]
    omega
  · have := J.many
    simp only [List.length_append]; omega
theorem J6.start (W : List (Option (Bool × List Nat))) (asker : Nat) (ha : asker < W.length) : J6 W (netM W asker) (netM W asker).row [] := by
  have up : ∀ h, h ≠ asker → (netM W asker).hands h = startM W asker h := fun h q => if_neg q
  have upa : (netM W asker).hands asker = (beginM (startM W asker asker)).1 := if_pos rfl
  have sz := begin_sizes (startM W asker asker)
  have sm := begin_same (startM W asker asker)
  have nf : ∀ (c : LW) x y, c ≠ .ask → cT (netM W asker).row (c, x, y) = 0 := fun c x y hc => by
    unfold cT
    have : (netM W asker).row.count (c, x, y) = 0 := by
      rw [List.count_eq_zero]; intro q
      exact hc (begin_out q).2.1
    rw [this]; rfl
  have wk0 : (beginM (startM W asker asker)).1.waker = none := by unfold beginM; split <;> rfl
  refine ⟨fun t => by rw [cT_nil]; omega, fun r hr s => ?_, fun s hs r => ?_, fun s hs r => ?_, fun k hk => ?_, by simp, rfl⟩
  · by_cases q : r = asker
    · subst q
      rw [upa]
      show cT (beginM (startM W r r)).2 (.ask, r, s) = _
      unfold beginM
      split
      · rw [cT_nil]; rfl
      · rw [send_cT]
        rw [if_pos ⟨rfl, rfl⟩]
        unfold gam
        rw [if_pos (by rfl)]
        simp [sendM, HandM.others]
    · rw [up r q]
      have : cT (netM W asker).row (.ask, r, s) = 0 := by
        unfold cT
        have : (netM W asker).row.count (.ask, r, s) = 0 := by
          rw [List.count_eq_zero]; intro z
          exact q (begin_out z).1
        rw [this]; rfl
      rw [this]; rfl
  · rw [nf _ _ _ (by decide), cT_nil]
    by_cases q : s = asker
    · subst q; rw [upa]; unfold alf; rw [sz.1]; split <;> rfl
    · rw [up s q]; unfold alf; split <;> rfl
  · rw [nf _ _ _ (by decide), cT_nil, cT_nil]
    by_cases q : s = asker
    · subst q; rw [upa]; unfold wkI; rw [wk0]; rfl
    · rw [up s q]; rfl
  · by_cases q : k = asker
    · subst q; rw [upa, sm.wait]; rfl
    · rw [up k q]; rfl
end Mine

set_option Elab.async false
set_option linter.unusedVariables false
namespace Mine
abbrev Wt8 := Option (Bool × List Nat)

/- the end of the waking tree -/
theorem Chain.last {wk asker l} (h : Chain wk asker l) (hl : l ≠ []) : ∃ x ∈ l, wk x = some asker := by
  induction h with
  | nil => exact absurd rfl hl
  | @cons x w l h hx ha hw hlw ih =>
    by_cases q : l = []
    · subst q
      rcases hlw with z | z
      · subst z; exact ⟨x, .head _, hw⟩
      · cases z
    · obtain ⟨y, hy, e⟩ := ih q
      exact ⟨y, .tail _ hy, e⟩
theorem Chain.into {wk asker l} (h : Chain wk asker l) : ∀ y ∈ l, ∀ w, wk y = some w → w = asker ∨ w ∈ l := by
  induction h with
  | nil => intro y hy; cases hy
  | @cons x w l h hx ha hw hlw ih =>
    intro y hy v hv
    cases hy with
    | head =>
      rw [hw] at hv; cases hv
      rcases hlw with z | z
      · exact .inl z
      · exact .inr (.tail _ z)
    | tail _ hy =>
      rcases ih y hy v hv with z | z
      · exact .inl z
      · exact .inr (.tail _ z)
theorem Chain.leaf {wk asker x l} (h : Chain wk asker (x :: l)) : ∀ y ∈ x :: l, wk y ≠ some x := by
  cases h with
  | @cons _ w _ h hx ha hw hlw =>
    intro y hy e
    cases hy with
    | head =>
      rw [hw] at e; cases e
      rcases hlw with z | z
      · exact ha z
      · exact hx z
    | tail _ hy =>
      rcases h.into y hy x e with z | z
      · exact ha z
      · exact hx z
variable {n asker : Nat} {M : NetM}
theorem wkN_zero {f : Nat → HandM} {x : Nat} (h : ∀ y < n, (f y).waker ≠ some x) : wkN n f x = 0 := by
  unfold wkN
  have : (List.range n).countP (fun h => decide ((f h).waker = some x)) = 0 := by
    rw [List.countP_eq_zero]
    intro y hy
    simpa using h y (by simpa using hy)
  rw [this]; rfl
/-- no letters: nobody was woken -/
theorem Inv7.noWaker (I : Inv7 n asker M) (hr : M.row = []) : ∀ x < n, (M.hands x).waker = none := by
  obtain ⟨l, hc, hl, hall⟩ := I.tree
  cases l with
  | nil =>
    intro x hx
    cases h : (M.hands x).waker with
    | none => rfl
    | some w => exact absurd (hall x hx (by rw [h]; simp)) (by simp)
  | cons x l =>
    exfalso
    have hx := hl x (.head _)
    have lf := hc.leaf
    have z : wkN n M.hands x = 0 := wkN_zero fun y hy e => lf y (hall y hy (by rw [e]; simp)) e
    have o := I.owed x hx
    rw [hr, z, cL_nil] at o
    have wx : (M.hands x).waker ≠ none := by
      cases hc with
      | cons h hx ha hw hlw =>
        have hw : (M.hands x).waker = some _ := hw
        rw [hw]; simp
    exact I.busy x hx wx (by omega)
theorem Inv7.owed0 (I : Inv7 n asker M) (hr : M.row = []) (x : Nat) (hx : x < n) : (M.hands x).owed = 0 := by
  have o := I.owed x hx
  rw [hr, cL_nil, wkN_zero (fun y hy e => by rw [I.noWaker hr y hy] at e; cases e)] at o
  omega
theorem Inv7.pos (I : Inv7 n asker M) (hr : M.row ≠ []) : 0 < (M.hands asker).owed := by
  have o := I.owed asker I.asks
  have h1 := cL_nonneg M.row asker
  have h2 := wkN_nonneg n M.hands asker
  by_cases q : 0 < (M.hands asker).owed
  · exact q
  · exfalso
    have z1 : cL M.row asker = 0 := by omega
    have z2 : wkN n M.hands asker = 0 := by omega
    have nw : ∀ y < n, (M.hands y).waker ≠ some asker := fun y hy e => by have := wkN_pos hy e; omega
    obtain ⟨l, hc, hl, hall⟩ := I.tree
    have hl0 : l = [] := by
      by_cases q : l = []
      · exact q
      · obtain ⟨x, hx, e⟩ := hc.last q
        exact absurd e (nw x (hl x hx))
    subst hl0
    have nn : ∀ y < n, (M.hands y).waker = none := fun y hy => by
      cases h : (M.hands y).waker with
      | none => rfl
      | some w => exact absurd (hall y hy (by rw [h]; simp)) (by simp)
    obtain ⟨t, ht⟩ := List.exists_mem_of_ne_nil _ hr
    have hpos := cL_pos ht
    have hlt : ownL t < n := by
      have := I.row t ht
      unfold ownL; split <;> omega
    by_cases q2 : ownL t = asker
    · rw [q2] at hpos; omega
    · have := I.idle _ hlt q2 (nn _ hlt)
      have o2 := I.owed _ hlt
      have := wkN_nonneg n M.hands (ownL t)
      omega

/- what a hand keeps true -/
inductive Fr (W : List Wt8) : Nat → Prop
  | none {h : Nat} (e : W.getD h Option.none = Option.none) : Fr W h
  | any {h x : Nat} {l : List Nat} (e : W.getD h Option.none = some (false, l)) (hx : x ∈ l) (f : Fr W x) : Fr W h
  | all {h : Nat} {l : List Nat} (e : W.getD h Option.none = some (true, l)) (f : ∀ x ∈ l, Fr W x) : Fr W h
inductive Rch (W : List Wt8) (asker : Nat) : Nat → Prop
  | root : Rch W asker asker
  | step {r x : Nat} {b : Bool} {l : List Nat} (h : Rch W asker r) (e : W.getD r Option.none = some (b, l)) (hx : x ∈ l) : Rch W asker x

/-- one hand's own state -/
structure HI (m : HandM) : Prop where
  hw : m.has = true → m.wait ≠ none
  nf : m.wait = none → m.freed = true
  fh : m.wait ≠ none → m.freed = true → m.has = true
  ah : m.askers ≠ [] → m.has = true
  hh : m.heard ≠ [] → m.has = true
  an : m.freed = false → m.isAll = false → m.heard = []
  al : m.freed = false → m.isAll = true → (m.others.all fun o => decide (o ∈ m.heard)) = false
structure HStep (m m' : HandM) (fl : List Lt) (w : LW) (s : Nat) : Prop where
  has : m.has = true → m'.has = true
  fre : m.freed = true → m'.freed = true
  new : m'.has = true → m.has = true ∨ w = .ask
  fr : m'.freed = true → m.freed = true ∨ (w = .freed ∧ ((m.isAll = true ∧ (∀ o ∈ m.others, o ∈ s :: m.heard)) ∨ m.isAll = false))
  out : ∀ t ∈ fl, t.1 = .freed → m'.freed = true
  asked : w = .ask → m'.wait ≠ none → m'.has = true
theorem HI.mid {m : HandM} (I : HI m) (w : LW) (s : Nat) (hw : w = .freed → m.wait ≠ none ∧ m.has = true) : HI (midM m w s).1 ∧ HStep m (midM m w s).1 (midM m w s).2 w s := by
  cases w with
  | back => exact ⟨I, ⟨id, id, .inl, .inl, fun t ht => (by cases ht), fun e => by cases e⟩⟩
  | ask =>
    show HI (askedM m s).1 ∧ HStep m (askedM m s).1 (askedM m s).2 .ask s
    unfold askedM
    split
    · rename_i hf
      refine ⟨⟨I.hw, I.nf, I.fh, I.ah, I.hh, I.an, I.al⟩, ⟨id, id, .inl, .inl, fun _ _ _ => hf, fun _ hn => I.fh hn hf⟩⟩
    · rename_i hf
      have hf : m.freed = false := by simpa using hf
      have hn : m.wait ≠ none := fun e => by rw [I.nf e] at hf; cases hf
      split
      · rename_i hh
        exact ⟨⟨I.hw, I.nf, I.fh, fun _ => hh, I.hh, I.an, I.al⟩, ⟨id, id, .inl, .inl, fun t ht => (by cases ht), fun _ _ => hh⟩⟩
      · unfold beginM
        split
        · rename_i hf2
          have hf2 : m.freed = true := hf2
          rw [hf] at hf2; cases hf2
        · refine ⟨⟨fun _ => hn, I.nf, fun _ _ => rfl, fun _ => rfl, fun _ => rfl, I.an, I.al⟩, ⟨fun _ => rfl, id, fun _ => .inr rfl, .inl, ?_, fun _ _ => rfl⟩⟩
          intro t ht e
          simp only [sendM, List.mem_map] at ht
          obtain ⟨x, _, rfl⟩ := ht
          cases e
  | freed =>
    obtain ⟨hn, hh⟩ := hw rfl
    show HI (toldM m s).1 ∧ HStep m (toldM m s).1 (toldM m s).2 .freed s
    unfold toldM
    split
    · rename_i hf
      exact ⟨⟨I.hw, I.nf, I.fh, I.ah, fun _ => hh, fun z => absurd (hf.symm.trans z) (by simp), fun z => absurd (hf.symm.trans z) (by simp)⟩, ⟨id, id, .inl, .inl, fun t ht => (by cases ht), fun e => by cases e⟩⟩
    · rename_i hf
      have hf : m.freed = false := by simpa using hf
      split
      · rename_i hc
        simp only [Bool.and_eq_true, Bool.not_eq_true'] at hc
        exact ⟨⟨I.hw, I.nf, fun _ _ => hh, I.ah, fun _ => hh, fun _ z => absurd (hc.1.symm.trans z) (by simp), fun _ _ => hc.2⟩, ⟨id, id, .inl, .inl, fun t ht => (by cases ht), fun e => by cases e⟩⟩
      · rename_i hc
        refine ⟨⟨I.hw, fun _ => rfl, fun _ _ => hh, I.ah, fun _ => hh, (fun z => by cases z), (fun z => by cases z)⟩, ⟨id, fun _ => rfl, .inl, fun _ => .inr ⟨rfl, ?_⟩, fun _ _ _ => rfl, fun e => by cases e⟩⟩
        cases ha : m.isAll with
        | false => exact .inr rfl
        | true =>
          refine .inl ⟨rfl, ?_⟩
          rw [ha] at hc
          simp only [Bool.true_and, Bool.not_eq_true'] at hc
          intro o hoo
          have : (m.others.all fun o => decide (o ∈ s :: m.heard)) = true := by
            cases q : (m.others.all fun o => decide (o ∈ s :: m.heard)) with
            | true => rfl
            | false => exact absurd q hc
          have := List.all_eq_true.mp this o hoo
          simpa using this
theorem HI.come {m : HandM} (I : HI m) (w : LW) (s : Nat) (hw : w = .freed → m.wait ≠ none ∧ m.has = true) : HI (comeM m w s).1 ∧ HStep m (comeM m w s).1 (comeM m w s).2 w s := by
  have sb := wake_sameB m w s
  have sa := wake_same m w s
  have I1 : HI (wakeM m w s).1 := by
    have ei : (wakeM m w s).1.isAll = m.isAll := by unfold HandM.isAll; rw [sa.wait]
    refine ⟨?_, ?_, ?_, ?_, ?_, ?_, ?_⟩
    · rw [sb.has, sa.wait]; exact I.hw
    · rw [sa.wait, sb.freed]; exact I.nf
    · rw [sa.wait, sb.freed, sb.has]; exact I.fh
    · rw [sb.askers, sb.has]; exact I.ah
    · rw [sb.heard, sb.has]; exact I.hh
    · rw [sb.freed, sb.heard, ei]; exact I.an
    · rw [sb.freed, sb.heard, ei, sa.others]; exact I.al
  obtain ⟨I2, S2⟩ := I1.mid w s (by rw [sa.wait, sb.has]; exact hw)
  have se := end_sameB (midM (wakeM m w s).1 w s).1 ((wakeM m w s).2 ++ (midM (wakeM m w s).1 w s).2)
  have sf := end_same (midM (wakeM m w s).1 w s).1 ((wakeM m w s).2 ++ (midM (wakeM m w s).1 w s).2)
  have cm : comeM m w s = endM (midM (wakeM m w s).1 w s).1 ((wakeM m w s).2 ++ (midM (wakeM m w s).1 w s).2) := rfl
  have eo : ∀ t ∈ (comeM m w s).2, t.1 = .freed → t ∈ (midM (wakeM m w s).1 w s).2 := fun t ht e => by
    rw [cm] at ht
    rcases end_out ht with q | ⟨u, _, rfl⟩
    · rcases List.mem_append.mp q with q | q
      · rw [(wake_out q).1] at e; cases e
      · exact q
    · cases e
  have ei : (wakeM m w s).1.isAll = m.isAll := by unfold HandM.isAll; rw [sa.wait]
  rw [cm] at eo ⊢
  generalize (midM (wakeM m w s).1 w s).1 = m2 at I2 S2 se sf eo ⊢
  refine ⟨⟨?_, ?_, ?_, ?_, ?_, ?_, ?_⟩, ⟨?_, ?_, ?_, ?_, ?_, ?_⟩⟩
  · rw [se.has, sf.wait]; exact I2.hw
  · rw [sf.wait, se.freed]; exact I2.nf
  · rw [sf.wait, se.freed, se.has]; exact I2.fh
  · rw [se.askers, se.has]; exact I2.ah
  · rw [se.heard, se.has]; exact I2.hh
  · have : (endM m2 ((wakeM m w s).2 ++ (midM (wakeM m w s).1 w s).2)).1.isAll = m2.isAll := by unfold HandM.isAll; rw [sf.wait]
    rw [se.freed, se.heard, this]; exact I2.an
  · have : (endM m2 ((wakeM m w s).2 ++ (midM (wakeM m w s).1 w s).2)).1.isAll = m2.isAll := by unfold HandM.isAll; rw [sf.wait]
    rw [se.freed, se.heard, this, sf.others]; exact I2.al
  · intro h; rw [se.has]; exact S2.has (by rw [sb.has]; exact h)
  · intro h; rw [se.freed]; exact S2.fre (by rw [sb.freed]; exact h)
  · intro h; rw [se.has] at h
    have := S2.new h
    rw [sb.has] at this; exact this
  · intro h; rw [se.freed] at h
    have := S2.fr h
    rw [sb.freed, sb.heard, ei, sa.others] at this; exact this
  · intro t ht e
    rw [se.freed]
    exact S2.out t (eo t ht e) e
  · intro e; rw [sf.wait, se.has]; exact S2.asked e

/- the net's state, along the letters -/
structure G8 (W : List Wt8) (asker : Nat) (M : NetM) : Prop where
  hi : ∀ h < W.length, HI (M.hands h)
  wt : ∀ h < W.length, (M.hands h).wait = W.getD h none
  fs : ∀ s r, (LW.freed, s, r) ∈ M.row → (M.hands s).freed = true
  he : ∀ r < W.length, ∀ x ∈ (M.hands r).heard, x < W.length ∧ (M.hands x).freed = true
  fr : ∀ h < W.length, (M.hands h).freed = true → Fr W h
  rc : ∀ h < W.length, (M.hands h).has = true → Rch W asker h
  root : (M.hands asker).wait ≠ none → (M.hands asker).has = true
variable {W : List Wt8}
theorem ask_gam {M : NetM} {n r s : Nat} (T : InvT n M) (hr : r < n) (hs : s < n) (h : (LW.ask, r, s) ∈ M.row) : 0 < gam (M.hands r) s := by
  have := T.tee r hr s hs
  unfold Mine.tee at this
  have h1 : 0 < cT M.row (.ask, r, s) := by unfold cT; have := List.count_pos_iff.mpr h; omega
  have h2 := alf_nonneg (M.hands s) r
  have h3 := cT_nonneg M.row (.freed, s, r)
  have h4 := eta_nonneg (M.hands r) s
  omega
theorem freed_gam {M : NetM} {n r s : Nat} (T : InvT n M) (hr : r < n) (hs : s < n) (h : (LW.freed, s, r) ∈ M.row) : 0 < gam (M.hands r) s := by
  have := T.tee r hr s hs
  unfold Mine.tee at this
  have h1 : 0 < cT M.row (.freed, s, r) := by unfold cT; have := List.count_pos_iff.mpr h; omega
  have h2 := alf_nonneg (M.hands s) r
  have h3 := cT_nonneg M.row (.ask, r, s)
  have h4 := eta_nonneg (M.hands r) s
  omega
theorem gam_has {m : HandM} {x : Nat} (h : 0 < gam m x) : m.has = true ∧ x ∈ m.others ∧ m.wait ≠ none := by
  have hm := gam_mem h
  refine ⟨?_, hm, ?_⟩
  · unfold gam at h; split at h
    · assumption
    · omega
  · intro e; unfold HandM.others at hm; rw [e] at hm; cases hm
theorem wait_of {m : HandM} {x : Nat} (h : x ∈ m.others) : ∃ b, m.wait = some (b, m.others) := by
  unfold HandM.others at h ⊢
  cases e : m.wait with
  | none => rw [e] at h; cases h
  | some p => obtain ⟨b, l⟩ := p; exact ⟨b, rfl⟩
theorem isAll_of {m : HandM} {b : Bool} {l : List Nat} (h : m.wait = some (b, l)) : m.isAll = b := by
  unfold HandM.isAll; rw [h]; cases b <;> rfl
theorem G8.bring (I : Inv7 W.length asker M) (T : InvT W.length M) (G : G8 W asker M) (p : Nat) : G8 W asker (bringM M p).1 := by
  unfold bringM
  split
  · exact G
  · rename_i w s h hp
    have hmem := List.mem_of_getElem? hp
    obtain ⟨hs, hh⟩ := I.row _ hmem
    have hs : s < W.length := hs
    have hh : h < W.length := hh
    have hgf : w = .freed → 0 < gam (M.hands h) s := fun e => by subst e; exact freed_gam T hh hs hmem
    have hga : w = .ask → 0 < gam (M.hands s) h := fun e => by subst e; exact ask_gam T hs hh hmem
    obtain ⟨HI2, HS⟩ := (G.hi h hh).come w s fun e => ⟨(gam_has (hgf e)).2.2, (gam_has (hgf e)).1⟩
    have hwt := (come_same (M.hands h) w s).wait
    have hhd := come_heard (M.hands h) w s
    have hnum := I.num h hh
    have hout : ∀ t ∈ (comeM (M.hands h) w s).2, t.2.1 = h := fun t ht => by rw [(come_out ht).1, hnum]
    have hwh : (M.hands h).wait = W.getD h none := G.wt h hh
    generalize hc : comeM (M.hands h) w s = c at HI2 HS hwt hhd hout
    have up : ∀ x, x ≠ h → upd M.hands h c.1 x = M.hands x := fun x q => if_neg q
    have uph : upd M.hands h c.1 h = c.1 := if_pos rfl
    have mono : ∀ x, (M.hands x).freed = true → (upd M.hands h c.1 x).freed = true := fun x hx => by
      by_cases q : x = h
      · subst q; rw [uph]; exact HS.fre hx
      · rw [up x q]; exact hx
    refine ⟨fun x hx => ?_, fun x hx => ?_, fun a b hab => ?_, fun r hr x hx => ?_, fun x hx hf => ?_, fun x hx hf => ?_, fun hf => ?_⟩
    · show HI (upd M.hands h c.1 x)
      by_cases q : x = h
      · subst q; rw [uph]; exact HI2
      · rw [up x q]; exact G.hi x hx
    · show (upd M.hands h c.1 x).wait = _
      by_cases q : x = h
      · subst q; rw [uph, hwt]; exact G.wt x hx
      · rw [up x q]; exact G.wt x hx
    · show (upd M.hands h c.1 a).freed = true
      rcases List.mem_append.mp hab with q | q
      · exact mono a (G.fs a b (List.mem_of_mem_eraseIdx q))
      · have e : a = h := hout _ q
        subst e; rw [uph]; exact HS.out _ q rfl
    · change x ∈ (upd M.hands h c.1 r).heard at hx
      show _ ∧ (upd M.hands h c.1 x).freed = true
      have old : ∀ r < W.length, x ∈ (M.hands r).heard → x < W.length ∧ (upd M.hands h c.1 x).freed = true := fun r hr hx => by
        obtain ⟨z1, z2⟩ := G.he r hr x hx; exact ⟨z1, mono x z2⟩
      by_cases q : r = h
      · subst q
        rw [uph, hhd] at hx
        split at hx
        · rename_i ew
          cases hx with
          | head =>
            subst ew
            exact ⟨hs, mono s (G.fs s r hmem)⟩
          | tail _ hx => exact old r hh hx
        · exact old r hh hx
      · rw [up r q] at hx; exact old r hr hx
    · change (upd M.hands h c.1 x).freed = true at hf
      by_cases q : x = h
      · subst q
        rw [uph] at hf
        rcases HS.fr hf with z | ⟨ew, z⟩
        · exact G.fr x hx z
        · subst ew
          obtain ⟨_, hso, hn⟩ := gam_has (hgf rfl)
          obtain ⟨b, eb⟩ := wait_of hso
          have frS : Fr W s := G.fr s hs (G.fs s x hmem)
          rcases z with ⟨za, zb⟩ | za
          · have : b = true := by rw [← isAll_of eb]; exact za
            subst this
            refine .all (hwh.symm.trans eb) fun y hy => ?_
            cases zb y hy with
            | head => exact frS
            | tail _ hy2 =>
              obtain ⟨z1, z2⟩ := G.he x hx y hy2
              exact G.fr y z1 z2
          · have : b = false := by rw [← isAll_of eb]; exact za
            subst this
            exact .any (hwh.symm.trans eb) hso frS
      · rw [up x q] at hf; exact G.fr x hx hf
    · change (upd M.hands h c.1 x).has = true at hf
      by_cases q : x = h
      · subst q
        rw [uph] at hf
        rcases HS.new hf with z | ew
        · exact G.rc x hx z
        · subst ew
          obtain ⟨z1, z2, _⟩ := gam_has (hga rfl)
          obtain ⟨b, eb⟩ := wait_of z2
          exact .step (G.rc s hs z1) ((G.wt s hs).symm.trans eb) z2
      · rw [up x q] at hf; exact G.rc x hx hf
    · change (upd M.hands h c.1 asker).wait ≠ none at hf
      show (upd M.hands h c.1 asker).has = true
      by_cases q : asker = h
      · subst q
        rw [uph] at hf ⊢
        rw [hwt] at hf
        exact HS.has (G.root hf)
      · rw [up asker q] at hf ⊢; exact G.root hf
theorem G8.start (W : List Wt8) (asker : Nat) (ha : asker < W.length) (hne : ∀ w ∈ W, ∀ b l, w = some (b, l) → l ≠ []) : G8 W asker (netM W asker) := by
  have h0 : ∀ k < W.length, HI (startM W asker k) := fun k hk => by
    refine ⟨fun e => (by cases e), fun e => ?_, fun e f => ?_, fun e => absurd rfl e, fun e => absurd rfl e, fun _ _ => rfl, fun _ hA => ?_⟩
    · have : (startM W asker k).freed = (startM W asker k).wait.isNone := rfl
      rw [this, e]; rfl
    · have : (startM W asker k).freed = (startM W asker k).wait.isNone := rfl
      rw [this] at f
      exact absurd (Option.isNone_iff_eq_none.mp f) e
    · show ((startM W asker k).others.all fun o => decide (o ∈ [])) = false
      cases e : (startM W asker k).wait with
      | none => unfold HandM.isAll at hA; rw [e] at hA; cases hA
      | some p =>
        obtain ⟨b, l⟩ := p
        have hl : l ≠ [] := hne (W.getD k none) (by simp [List.getD_eq_getElem?_getD, hk]) b l e
        have eo : (startM W asker k).others = l := by unfold HandM.others; rw [e]
        rw [eo]
        cases l with
        | nil => exact absurd rfl hl
        | cons x l => simp
  have up : ∀ h, h ≠ asker → (netM W asker).hands h = startM W asker h := fun h q => if_neg q
  have upa : (netM W asker).hands asker = (beginM (startM W asker asker)).1 := if_pos rfl
  have sm := begin_same (startM W asker asker)
  have sz := begin_sizes (startM W asker asker)
  have bf : (beginM (startM W asker asker)).1.freed = (startM W asker asker).freed := by unfold beginM; split <;> rfl
  have wt0 : ∀ k, (startM W asker k).wait = W.getD k none := fun k => rfl
  have bh : (beginM (startM W asker asker)).1.has = !(startM W asker asker).freed := by
    unfold beginM
    split
    · rename_i q; rw [q]; rfl
    · rename_i q
      show true = _
      have : (startM W asker asker).freed = false := by simpa using q
      rw [this]; rfl
  have frw : (startM W asker asker).freed = (startM W asker asker).wait.isNone := rfl
  have hia : HI (beginM (startM W asker asker)).1 := by
    have q := h0 asker ha
    have ei : (beginM (startM W asker asker)).1.isAll = (startM W asker asker).isAll := by unfold HandM.isAll; rw [sm.wait]
    refine ⟨?_, ?_, ?_, ?_, ?_, ?_, ?_⟩
    · rw [sm.wait, bh, frw]; intro e z; rw [z] at e; cases e
    · rw [sm.wait, bf]; exact q.nf
    · rw [sm.wait, bf, bh, frw]; intro e z; exact absurd (Option.isNone_iff_eq_none.mp z) e
    · rw [sz.1]; intro e; exact absurd rfl e
    · rw [sz.2.1]; intro e; exact absurd rfl e
    · rw [bf, sz.2.1, ei]; exact q.an
    · rw [bf, sz.2.1, ei, sm.others]; exact q.al
  refine ⟨fun x hx => ?_, fun x hx => ?_, fun a b hab => ?_, fun r hr x hx => ?_, fun x hx hf => ?_, fun x hx hf => ?_, fun hf => ?_⟩
  · by_cases q : x = asker
    · subst q; rw [upa]; exact hia
    · rw [up x q]; exact h0 x hx
  · by_cases q : x = asker
    · subst q; rw [upa, sm.wait]; rfl
    · rw [up x q]; rfl
  · have := (begin_out hab).2.1; cases this
  · by_cases q : r = asker
    · subst q; rw [upa, sz.2.1] at hx; cases hx
    · rw [up r q] at hx; cases hx
  · refine .none ?_
    have key : ∀ k, (startM W asker k).freed = true → W.getD k none = none := fun k hk => Option.isNone_iff_eq_none.mp hk
    by_cases q : x = asker
    · subst q; rw [upa, bf] at hf; exact key _ hf
    · rw [up x q] at hf; exact key _ hf
  · by_cases q : x = asker
    · subst q; exact .root
    · rw [up x q] at hf; cases hf
  · rw [upa] at hf ⊢
    rw [sm.wait] at hf
    rw [bh, frw]
    cases e : (startM W asker asker).wait with
    | none => exact absurd e hf
    | some p => rfl

/- when no letter is left -/
structure End8 (W : List Wt8) (asker : Nat) (M : NetM) : Prop where
  I : Inv7 W.length asker M
  T : InvT W.length M
  G : G8 W asker M
  row : M.row = []
theorem End8.oth (E : End8 W asker M) {r : Nat} {b : Bool} {l : List Nat} (hr : r < W.length) (e : W.getD r none = some (b, l)) : (M.hands r).others = l ∧ (M.hands r).isAll = b := by
  have hw := (E.G.wt r hr).trans e
  exact ⟨by unfold HandM.others; rw [hw], isAll_of hw⟩
theorem End8.lt (E : End8 W asker M) {r x : Nat} {b : Bool} {l : List Nat} (hr : r < W.length) (e : W.getD r none = some (b, l)) (hx : x ∈ l) : x < W.length :=
  E.I.oth r hr x (by rw [(E.oth hr e).1]; exact hx)
theorem End8.eta (E : End8 W asker M) {r s : Nat} (hr : r < W.length) (hs : s < W.length) : Mine.eta (M.hands r) s = if (M.hands s).freed = true then gam (M.hands r) s else 0 := by
  have := E.T.tee r hr s hs
  unfold Mine.tee at this
  rw [E.row, cT_nil, cT_nil] at this
  split
  · rename_i hf
    have : alf (M.hands s) r = 0 := by unfold alf; rw [if_pos hf]
    omega
  · rename_i hf
    unfold Mine.eta
    have : (M.hands r).heard.count s = 0 := by
      rw [List.count_eq_zero]
      intro q
      exact hf (E.G.he r hr s q).2
    rw [this]; rfl
theorem End8.rlt (E : End8 W asker M) {h : Nat} (H : Rch W asker h) : h < W.length := by
  induction H with
  | root => exact E.I.asks
  | step h e hx ih => exact E.lt ih e hx
theorem End8.has (E : End8 W asker M) {h : Nat} (H : Rch W asker h) : W.getD h none ≠ none → (M.hands h).has = true := by
  induction H with
  | root => intro q; exact E.G.root (by rw [E.G.wt _ E.I.asks]; exact q)
  | @step r x b l h e hx ih =>
    intro q
    have hr := E.rlt h
    have hxl := E.lt hr e hx
    have hh := ih (by rw [e]; simp)
    have g : 0 < gam (M.hands r) x := by
      unfold gam; rw [if_pos hh, (E.oth hr e).1]
      have := List.count_pos_iff.mpr hx; omega
    have hi := E.G.hi x hxl
    have hw := E.G.wt x hxl
    have te := E.T.tee r hr x hxl
    unfold Mine.tee at te
    rw [E.row, cT_nil, cT_nil] at te
    by_cases a : 0 < alf (M.hands x) r
    · refine hi.ah fun z => ?_
      unfold alf at a
      rw [z] at a
      split at a <;> simp at a
    · have e1 : 0 < Mine.eta (M.hands r) x := by omega
      have e2 : (M.hands x).freed = true := by
        have := E.eta hr hxl
        by_cases z : (M.hands x).freed = true
        · exact z
        · rw [if_neg z] at this; omega
      exact hi.fh (by rw [hw]; exact q) e2
theorem End8.hasIff (E : End8 W asker M) {h : Nat} (hh : h < W.length) : (M.hands h).has = true ↔ Rch W asker h ∧ W.getD h none ≠ none :=
  ⟨fun q => ⟨E.G.rc h hh q, by rw [← E.G.wt h hh]; exact (E.G.hi h hh).hw q⟩, fun q => E.has q.1 q.2⟩
theorem End8.free (E : End8 W asker M) {h : Nat} (F : Fr W h) : Rch W asker h → (M.hands h).freed = true := by
  induction F with
  | @none h e => intro q; exact (E.G.hi h (E.rlt q)).nf (by rw [E.G.wt _ (E.rlt q)]; exact e)
  | @any h x l e hx f ih =>
    intro q
    have hr := E.rlt q
    have hxl := E.lt hr e hx
    have fx := ih (.step q e hx)
    have hh := E.has q (by rw [e]; simp)
    have et := E.eta hr hxl
    rw [if_pos fx] at et
    have g : 0 < gam (M.hands h) x := by
      unfold gam; rw [if_pos hh, (E.oth hr e).1]
      have := List.count_pos_iff.mpr hx; omega
    cases z : (M.hands h).freed with
    | true => rfl
    | false =>
      have := (E.G.hi h hr).an z (E.oth hr e).2
      unfold Mine.eta at et
      rw [this] at et
      simp at et; omega
  | @all h l e f ih =>
    intro q
    have hr := E.rlt q
    have hh := E.has q (by rw [e]; simp)
    cases z : (M.hands h).freed with
    | true => rfl
    | false =>
      have := (E.G.hi h hr).al z (E.oth hr e).2
      rw [(E.oth hr e).1] at this
      have tr : (l.all fun o => decide (o ∈ (M.hands h).heard)) = true := by
        rw [List.all_eq_true]
        intro x hx
        have hxl := E.lt hr e hx
        have fx := ih x hx (.step q e hx)
        have et := E.eta hr hxl
        rw [if_pos fx] at et
        have g : 0 < gam (M.hands h) x := by
          unfold gam; rw [if_pos hh, (E.oth hr e).1]
          have := List.count_pos_iff.mpr hx; omega
        unfold Mine.eta at et
        simpa using List.count_pos_iff.mp (show 0 < (M.hands h).heard.count x by omega)
      rw [tr] at this; cases this
theorem End8.freeIff (E : End8 W asker M) {h : Nat} (q : Rch W asker h) : (M.hands h).freed = true ↔ Fr W h := ⟨E.G.fr h (E.rlt q), fun f => E.free f q⟩
end Mine

set_option Elab.async false
set_option linter.unusedVariables false
namespace Mine
def sumN : Nat → (Nat → Int) → Int
  | 0, _ => 0
  | n + 1, f => sumN n f + f n
theorem sumN_congr {f g : Nat → Int} : ∀ {n : Nat}, (∀ k < n, f k = g k) → sumN n f = sumN n g
  | 0, _ => rfl
  | n + 1, h => by simp only [sumN]; rw [sumN_congr fun k hk => h k (by omega), h n (by omega)]
theorem sumN_le {f g : Nat → Int} : ∀ {n : Nat}, (∀ k < n, f k ≤ g k) → sumN n f ≤ sumN n g
  | 0, _ => Int.le_refl _
  | n + 1, h => by
    simp only [sumN]
    have := sumN_le (n := n) fun k hk => h k (by omega)
    have := h n (by omega)
    omega
theorem sumN_add (f g : Nat → Int) : ∀ n, sumN n (fun k => f k + g k) = sumN n f + sumN n g
  | 0 => rfl
  | n + 1 => by simp only [sumN]; rw [sumN_add f g n]; omega
theorem sumN_zero : ∀ n, sumN n (fun _ => 0) = 0
  | 0 => rfl
  | n + 1 => by simp only [sumN]; rw [sumN_zero n]; rfl
theorem sumN_swap (f : Nat → Nat → Int) (m : Nat) : ∀ n, sumN n (fun a => sumN m fun b => f a b) = sumN m fun b => sumN n fun a => f a b
  | 0 => by simp only [sumN]; rw [sumN_zero]
  | n + 1 => by simp only [sumN]; rw [sumN_swap f m n, sumN_add]
theorem sumN_one {c : Int} {i : Nat} : ∀ {n : Nat}, sumN n (fun k => if k = i then c else 0) = if i < n then c else 0
  | 0 => by simp [sumN]
  | n + 1 => by
    simp only [sumN]
    rw [sumN_one (n := n)]
    by_cases h1 : i < n
    · have : ¬ n = i := by omega
      have h3 : i < n + 1 := by omega
      simp only [h1, this, h3, if_true, if_false]; omega
    · by_cases h2 : n = i
      · subst h2; simp
      · have h3 : ¬ i < n + 1 := by omega
        simp only [h1, h2, h3, if_false]; omega
theorem sumN_count (p : Nat → Bool) (n : Nat) : ∀ (l : List Nat), (∀ x ∈ l, x < n) → sumN n (fun b => if p b = true then ((l.count b : Nat) : Int) else 0) = ((l.filter p).length : Nat)
  | [], _ => by
    rw [sumN_congr (g := fun _ => 0) fun k _ => by simp, sumN_zero]; rfl
  | x :: l, h => by
    have e : ∀ k < n, (if p k = true then (((x :: l).count k : Nat) : Int) else 0) = (if p k = true then ((l.count k : Nat) : Int) else 0) + (if k = x then (if p x = true then 1 else 0) else 0) := fun k _ => by
      rw [count_cons']
      by_cases h1 : k = x
      · subst h1; split <;> simp
      · have h2 : ¬ x = k := fun z => h1 z.symm
        simp [h1, h2]
    rw [sumN_congr e, sumN_add, sumN_count p n l fun y hy => h y (.tail _ hy), sumN_one, if_pos (h x (.head _)), List.filter_cons]
    split <;> simp
theorem sumN_count' (n : Nat) (l : List Nat) (h : ∀ x ∈ l, x < n) : sumN n (fun b => ((l.count b : Nat) : Int)) = (l.length : Nat) := by
  have := sumN_count (fun _ => true) n l h
  rw [List.filter_eq_self.mpr (fun _ _ => rfl)] at this
  simpa using this
def ind3 (u : Lt) (a b : Nat) : Int := ind (u = (LW.ask, a, b)) + ind (u = (LW.freed, a, b)) + ind (u = (LW.back, a, b))
theorem ind3_eq (u : Lt) (a b : Nat) : ind3 u a b = if a = u.2.1 then (if b = u.2.2 then 1 else 0) else 0 := by
  obtain ⟨w, s, r⟩ := u
  unfold ind3 ind
  by_cases h1 : a = s
  · subst h1
    by_cases h2 : b = r
    · subst h2; cases w <;> simp
    · have h3 : ¬ r = b := fun z => h2 z.symm
      cases w <;> simp [h2, h3]
  · have h3 : ¬ s = a := fun z => h1 z.symm
    cases w <;> simp [h1, h3]
theorem len_sum (n : Nat) : ∀ (S : List Lt), (∀ t ∈ S, t.2.1 < n ∧ t.2.2 < n) → ((S.length : Nat) : Int) = sumN n fun a => sumN n fun b => cT S (.ask, a, b) + cT S (.freed, a, b) + cT S (.back, a, b)
  | [], _ => by
    rw [sumN_congr (g := fun _ => 0) fun a _ => by rw [sumN_congr (g := fun _ => 0) fun b _ => by rw [cT_nil, cT_nil, cT_nil]; rfl, sumN_zero], sumN_zero]; rfl
  | u :: S, h => by
    have ih := len_sum n S fun t ht => h t (.tail _ ht)
    obtain ⟨h1, h2⟩ := h u (.head _)
    have e : ∀ a < n, sumN n (fun b => cT (u :: S) (.ask, a, b) + cT (u :: S) (.freed, a, b) + cT (u :: S) (.back, a, b)) = sumN n (fun b => cT S (.ask, a, b) + cT S (.freed, a, b) + cT S (.back, a, b)) + (if a = u.2.1 then 1 else 0) := fun a _ => by
      rw [sumN_congr (g := fun b => (cT S (.ask, a, b) + cT S (.freed, a, b) + cT S (.back, a, b)) + ind3 u a b) fun b _ => by rw [cT_cons, cT_cons, cT_cons]; unfold ind3; omega, sumN_add]
      congr 1
      by_cases q : a = u.2.1
      · rw [if_pos q, sumN_congr (g := fun b => if b = u.2.2 then 1 else 0) fun b _ => by rw [ind3_eq, if_pos q], sumN_one, if_pos h2]
      · rw [if_neg q, sumN_congr (g := fun _ => 0) fun b _ => by rw [ind3_eq, if_neg q], sumN_zero]
    rw [sumN_congr e, sumN_add, ← ih, sumN_one, if_pos h1, List.length_cons]
    omega

variable {W : List Wt8} {M : NetM} {S Cm : List Lt} {asker : Nat}
def othN (M : NetM) (a : Nat) : Int := ((M.hands a).others.length : Nat)
/-- never more than four letters for each pair -/
theorem J6.few (J : J6 W M S Cm) (I : Inv7 W.length asker M) (hS : ∀ t ∈ S, t.2.1 < W.length ∧ t.2.2 < W.length) : ((S.length : Nat) : Int) ≤ 4 * sumN W.length (othN M) := by
  rw [len_sum W.length S hS]
  have b : ∀ t, cT Cm t ≤ cT S t := fun t => by have := J.bal t; have := cT_nonneg M.row t; omega
  have f : ∀ s < W.length, ∀ r < W.length, cT S (.freed, s, r) ≤ gam (M.hands r) s := fun s hs r hr => by
    have h1 := J.fre s hs r
    have h2 := alf_nonneg (M.hands s) r
    have h3 := b (.ask, r, s)
    have h4 := J.ask r hr s
    omega
  have k : ∀ s < W.length, ∀ r < W.length, cT S (.back, s, r) ≤ gam (M.hands r) s + gam (M.hands s) r := fun s hs r hr => by
    have h1 := J.bac s hs r
    have h2 := wkI_nonneg (M.hands s) r
    have h3 := b (.ask, r, s)
    have h4 := b (.freed, r, s)
    have h5 := J.ask r hr s
    have h6 := f r hr s hs
    omega
  have le1 : sumN W.length (fun a => sumN W.length fun b => cT S (.ask, a, b) + cT S (.freed, a, b) + cT S (.back, a, b)) ≤ sumN W.length (fun a => sumN W.length fun b => (gam (M.hands a) b + gam (M.hands a) b) + (gam (M.hands b) a + gam (M.hands b) a)) := sumN_le fun a ha => sumN_le fun b hb => by
    have h1 := J.ask a ha b
    have h2 := f a ha b hb
    have h3 := k a ha b hb
    omega
  have g1 : sumN W.length (fun a => sumN W.length fun b => gam (M.hands a) b) ≤ sumN W.length (othN M) := sumN_le fun a ha => by
    refine Int.le_trans (sumN_le (g := fun b => (((M.hands a).others.count b : Nat) : Int)) fun b _ => ?_) ?_
    · unfold gam; split <;> omega
    · rw [sumN_count' _ _ fun x hx => I.oth a ha x hx]; exact Int.le_refl _
  have g2 : sumN W.length (fun a => sumN W.length fun b => gam (M.hands b) a) = sumN W.length (fun a => sumN W.length fun b => gam (M.hands a) b) := sumN_swap (fun a b => gam (M.hands b) a) W.length W.length
  have e : sumN W.length (fun a => sumN W.length fun b => (gam (M.hands a) b + gam (M.hands a) b) + (gam (M.hands b) a + gam (M.hands b) a)) = 2 * sumN W.length (fun a => sumN W.length fun b => gam (M.hands a) b) + 2 * sumN W.length (fun a => sumN W.length fun b => gam (M.hands b) a) := by
    rw [sumN_congr (g := fun a => (sumN W.length (fun b => gam (M.hands a) b) + sumN W.length (fun b => gam (M.hands a) b)) + (sumN W.length (fun b => gam (M.hands b) a) + sumN W.length (fun b => gam (M.hands b) a))) fun a _ => by rw [sumN_add, sumN_add, sumN_add]]
    rw [sumN_add, sumN_add, sumN_add]; omega
  omega
/-- the letters told at the end -/
def termN (M : NetM) (a : Nat) : Int := if (M.hands a).has = true then 2 * ((M.hands a).others.length : Nat) + 2 * (((M.hands a).others.filter fun b => (M.hands b).freed).length : Nat) else 0
theorem End8.total (E : End8 W asker M) (J : J6 W M S Cm) (hS : ∀ t ∈ S, t.2.1 < W.length ∧ t.2.2 < W.length) : ((M.many : Nat) : Int) = sumN W.length (termN M) := by
  rw [J.many, len_sum W.length S hS]
  have b : ∀ t, cT Cm t = cT S t := fun t => by have := J.bal t; rw [E.row, cT_nil] at this; omega
  have f : ∀ s < W.length, ∀ r < W.length, cT S (.freed, s, r) = Mine.eta (M.hands r) s := fun s hs r hr => by
    have h1 := J.fre s hs r
    rw [b] at h1
    have h4 := J.ask r hr s
    have te := E.T.tee r hr s hs
    unfold Mine.tee at te
    rw [E.row, cT_nil, cT_nil] at te
    omega
  have k : ∀ s < W.length, ∀ r < W.length, cT S (.back, s, r) = gam (M.hands r) s + Mine.eta (M.hands s) r := fun s hs r hr => by
    have h1 := J.bac s hs r
    rw [b, b] at h1
    have h2 : wkI (M.hands s) r = 0 := by unfold wkI ind; rw [E.I.noWaker E.row s hs]; rfl
    have h5 := J.ask r hr s
    have h6 := f r hr s hs
    omega
  have e0 : sumN W.length (fun a => sumN W.length fun b => cT S (.ask, a, b) + cT S (.freed, a, b) + cT S (.back, a, b)) = sumN W.length (fun a => sumN W.length fun b => (gam (M.hands a) b + Mine.eta (M.hands a) b) + (gam (M.hands b) a + Mine.eta (M.hands b) a)) := sumN_congr fun a ha => sumN_congr fun b hb => by
    have h1 := J.ask a ha b
    have h2 := f a ha b hb
    have h3 := k a ha b hb
    omega
  have e1 : sumN W.length (fun a => sumN W.length fun b => (gam (M.hands a) b + Mine.eta (M.hands a) b) + (gam (M.hands b) a + Mine.eta (M.hands b) a)) = sumN W.length (fun a => sumN W.length fun b => gam (M.hands a) b + Mine.eta (M.hands a) b) + sumN W.length (fun a => sumN W.length fun b => gam (M.hands b) a + Mine.eta (M.hands b) a) := by
    rw [← sumN_add]
    exact sumN_congr fun a _ => sumN_add _ _ _
  have e2 : sumN W.length (fun a => sumN W.length fun b => gam (M.hands b) a + Mine.eta (M.hands b) a) = sumN W.length (fun a => sumN W.length fun b => gam (M.hands a) b + Mine.eta (M.hands a) b) := sumN_swap (fun a b => gam (M.hands b) a + Mine.eta (M.hands b) a) W.length W.length
  rw [e0, e1, e2, ← sumN_add]
  refine sumN_congr fun a ha => ?_
  have s1 : sumN W.length (fun b => gam (M.hands a) b) = if (M.hands a).has = true then (((M.hands a).others.length : Nat) : Int) else 0 := by
    by_cases h : (M.hands a).has = true
    · rw [if_pos h, sumN_congr (g := fun b => (((M.hands a).others.count b : Nat) : Int)) fun b _ => by unfold gam; rw [if_pos h], sumN_count' _ _ fun x hx => E.I.oth a ha x hx]
    · rw [if_neg h, sumN_congr (g := fun _ => 0) fun b _ => by unfold gam; rw [if_neg h], sumN_zero]
  have s2 : sumN W.length (fun b => Mine.eta (M.hands a) b) = if (M.hands a).has = true then ((((M.hands a).others.filter fun b => (M.hands b).freed).length : Nat) : Int) else 0 := by
    by_cases h : (M.hands a).has = true
    · rw [if_pos h, sumN_congr (g := fun b => if (M.hands b).freed = true then (((M.hands a).others.count b : Nat) : Int) else 0) fun b hb => by rw [E.eta ha hb]; unfold gam; rw [if_pos h], sumN_count _ _ _ fun x hx => E.I.oth a ha x hx]
    · rw [if_neg h, sumN_congr (g := fun _ => 0) fun b hb => by rw [E.eta ha hb]; unfold gam; rw [if_neg h]; simp, sumN_zero]
  rw [sumN_add, s1, s2]
  unfold termN
  split <;> omega
end Mine

set_option Elab.async false
set_option linter.unusedVariables false
namespace Mine
variable {W : List Wt8} {asker : Nat}
def valB (W : List Wt8) (f : Nat → Bool) (h : Nat) : Bool := match W.getD h none with
  | none => false
  | some (b, l) => !(l.filter f).isEmpty && (!b || decide ((l.filter f).length = l.length))
def stpF (W : List Wt8) (f : Nat → Bool) (h : Nat) : Nat → Bool := upd f h (f h || valB W f h)
def rndF (W : List Wt8) (f : Nat → Bool) : Nat → (Nat → Bool)
  | 0 => f
  | i + 1 => stpF W (rndF W f i) i
def initF (W : List Wt8) : Nat → Bool := fun h => (W.getD h none).isNone
def turnF (W : List Wt8) : Nat → (Nat → Bool)
  | 0 => initF W
  | t + 1 => rndF W (turnF W t) W.length
def freeF (W : List Wt8) : Nat → Bool := turnF W W.length
theorem filt_len {f : Nat → Bool} : ∀ {l : List Nat}, (l.filter f).length = l.length → ∀ x ∈ l, f x = true
  | [], _, x, hx => by cases hx
  | y :: l, h, x, hx => by
    rw [List.filter_cons] at h
    split at h
    · rename_i q
      simp at h
      cases hx with
      | head => exact q
      | tail _ hx => exact h x hx
    · have := List.length_filter_le f l
      simp at h; omega
theorem stpF_snd {f : Nat → Bool} (hf : ∀ h, f h = true → Fr W h) (i : Nat) : ∀ h, stpF W f i h = true → Fr W h := by
  intro h e
  unfold stpF upd at e
  split at e
  · rename_i q; subst q
    rw [Bool.or_eq_true] at e
    rcases e with e | e
    · exact hf h e
    · unfold valB at e
      split at e
      · cases e
      · rename_i b l hw
        rw [Bool.and_eq_true, Bool.or_eq_true] at e
        obtain ⟨e1, e2⟩ := e
        cases b with
        | false =>
          have : l.filter f ≠ [] := fun z => by rw [z] at e1; cases e1
          obtain ⟨x, hx⟩ := List.exists_mem_of_ne_nil _ this
          obtain ⟨h1, h2⟩ := List.mem_filter.mp hx
          exact .any hw h1 (hf x h2)
        | true =>
          have e2 : (l.filter f).length = l.length := by simpa using e2
          exact .all hw fun x hx => hf x (filt_len e2 x hx)
  · exact hf h e
theorem stpF_mono {f : Nat → Bool} {i h : Nat} (e : f h = true) : stpF W f i h = true := by
  unfold stpF upd
  split
  · rename_i q; subst q; rw [e]; rfl
  · exact e
theorem rndF_snd {f : Nat → Bool} (hf : ∀ h, f h = true → Fr W h) : ∀ i h, rndF W f i h = true → Fr W h
  | 0 => hf
  | i + 1 => stpF_snd (rndF_snd hf i) i
theorem rndF_mono {f : Nat → Bool} {h : Nat} (e : f h = true) : ∀ i, rndF W f i h = true
  | 0 => e
  | i + 1 => stpF_mono (rndF_mono e i)
theorem rndF_up {f : Nat → Bool} {h i : Nat} (e : rndF W f i h = true) : ∀ d, rndF W f (i + d) h = true
  | 0 => e
  | d + 1 => stpF_mono (rndF_up e d)
theorem rndF_out {f : Nat → Bool} {h : Nat} : ∀ i, i ≤ h → rndF W f i h = f h
  | 0, _ => rfl
  | i + 1, hi => by
    show upd (rndF W f i) i _ h = _
    unfold upd
    rw [if_neg (by omega)]
    exact rndF_out i (by omega)
def Clo (W : List Wt8) (f : Nat → Bool) : Prop := ∀ h < W.length, valB W f h = true → f h = true
def cntF (n : Nat) (f : Nat → Bool) : Nat := (List.range n).countP f
theorem cntF_succ (n : Nat) (f : Nat → Bool) : cntF (n + 1) f = cntF n f + if f n = true then 1 else 0 := by
  unfold cntF
  rw [List.range_succ, List.countP_append]
  simp [List.countP_cons]
theorem cntF_le {f g : Nat → Bool} (h : ∀ x, f x = true → g x = true) : ∀ n, cntF n f ≤ cntF n g
  | 0 => Nat.le_refl _
  | n + 1 => by
    rw [cntF_succ, cntF_succ]
    have := cntF_le h n
    by_cases q : f n = true
    · rw [if_pos q, if_pos (h n q)]; omega
    · rw [if_neg q]; omega
theorem cntF_lt {f g : Nat → Bool} (h : ∀ x, f x = true → g x = true) {x : Nat} (h1 : f x = false) (h2 : g x = true) : ∀ n, x < n → cntF n f < cntF n g
  | 0, hx => absurd hx (Nat.not_lt_zero _)
  | n + 1, hx => by
    rw [cntF_succ, cntF_succ]
    by_cases q : x = n
    · subst q
      have := cntF_le h x
      rw [h1, h2]; simp; omega
    · have := cntF_lt h h1 h2 n (by omega)
      by_cases q : f n = true
      · rw [if_pos q, if_pos (h n q)]; omega
      · rw [if_neg q]; omega
theorem cntF_top (f : Nat → Bool) : ∀ n, cntF n f ≤ n
  | 0 => Nat.le_refl _
  | n + 1 => by rw [cntF_succ]; have := cntF_top f n; split <;> omega
theorem cntF_full {f : Nat → Bool} : ∀ n, n ≤ cntF n f → ∀ h < n, f h = true
  | 0, _, h, hh => absurd hh (Nat.not_lt_zero _)
  | n + 1, hn, h, hh => by
    rw [cntF_succ] at hn
    have := cntF_top f n
    by_cases q : f n = true
    · rw [if_pos q] at hn
      by_cases z : h = n
      · subst z; exact q
      · exact cntF_full n (by omega) h (by omega)
    · rw [if_neg q] at hn; omega
theorem rndF_fix {f : Nat → Bool} (h : ∀ x, rndF W f W.length x = true → f x = true) : Clo W f := by
  have e : ∀ i, i ≤ W.length → rndF W f i = f := fun i hi => by
    funext x
    cases q : f x with
    | true => exact rndF_mono q i
    | false =>
      cases z : rndF W f i x with
      | false => rfl
      | true =>
        have := rndF_up z (W.length - i)
        rw [show i + (W.length - i) = W.length by omega] at this
        rw [h x this] at q; cases q
  intro x hx hv
  have e1 := congrFun (e (x + 1) (by omega)) x
  have : rndF W f (x + 1) = stpF W (rndF W f x) x := rfl
  rw [this, e x (by omega)] at e1
  unfold stpF upd at e1
  rw [if_pos rfl, hv] at e1
  rw [← e1]; simp
theorem rndF_clo {f : Nat → Bool} (h : Clo W f) : ∀ i, i ≤ W.length → rndF W f i = f
  | 0, _ => rfl
  | i + 1, hi => by
    show stpF W (rndF W f i) i = f
    rw [rndF_clo h i (by omega)]
    funext x
    unfold stpF upd
    split
    · rename_i q; subst q
      cases z : f x with
      | true => rfl
      | false =>
        cases v : valB W f x with
        | false => rfl
        | true => rw [h x (by omega) v] at z; cases z
    · rfl
theorem turnF_prog : ∀ t, Clo W (turnF W t) ∨ t ≤ cntF W.length (turnF W t)
  | 0 => .inr (Nat.zero_le _)
  | t + 1 => by
    show Clo W (rndF W (turnF W t) W.length) ∨ _ ≤ cntF W.length (rndF W (turnF W t) W.length)
    rcases turnF_prog t with h | h
    · left; rw [rndF_clo h _ (Nat.le_refl _)]; exact h
    · by_cases q : ∀ x, rndF W (turnF W t) W.length x = true → turnF W t x = true
      · left
        have c := rndF_fix q
        rw [rndF_clo c _ (Nat.le_refl _)]; exact c
      · right
        obtain ⟨x, hx⟩ := Classical.not_forall.mp q
        obtain ⟨h1, h2⟩ := Classical.not_imp.mp hx
        have h2 : turnF W t x = false := by simpa using h2
        have hxn : x < W.length := by
          by_cases z : x < W.length
          · exact z
          · rw [rndF_out W.length (by omega)] at h1; rw [h1] at h2; cases h2
        have := cntF_lt (fun y hy => rndF_mono (W := W) hy W.length) h2 h1 W.length hxn
        omega
theorem turnF_snd : ∀ t h, turnF W t h = true → Fr W h
  | 0 => fun h e => .none (Option.isNone_iff_eq_none.mp e)
  | t + 1 => rndF_snd (turnF_snd t) W.length
theorem turnF_init {h : Nat} (e : initF W h = true) : ∀ t, turnF W t h = true
  | 0 => e
  | t + 1 => rndF_mono (turnF_init e t) W.length
theorem freeF_clo : Clo W (freeF W) := by
  rcases turnF_prog (W := W) W.length with h | h
  · exact h
  · exact fun x hx _ => cntF_full _ h x hx
theorem freeF_iff (hne : ∀ h b l, W.getD h none = some (b, l) → l ≠ []) (h : Nat) : freeF W h = true ↔ Fr W h := by
  refine ⟨turnF_snd _ h, fun F => ?_⟩
  have lt : ∀ {h b l}, W.getD h none = some (b, l) → h < W.length := fun {h b l} e => by
    by_cases q : h < W.length
    · exact q
    · rw [List.getD_eq_getElem?_getD, List.getElem?_eq_none (by omega)] at e; cases e
  induction F with
  | none e => exact turnF_init (by unfold initF; rw [e]; rfl) _
  | @any h x l e hx f ih =>
    refine freeF_clo h (lt e) ?_
    unfold valB; rw [e]
    have : l.filter (freeF W) ≠ [] := List.ne_nil_of_mem (List.mem_filter.mpr ⟨hx, ih⟩)
    simp [this]
  | @all h l e f ih =>
    refine freeF_clo h (lt e) ?_
    unfold valB; rw [e]
    have h1 : l.filter (freeF W) = l := List.filter_eq_self.mpr ih
    have h2 := hne h true l e
    simp only [h1]
    simp [h2]

/- the hands that ask -/
def lenW (W : List Wt8) (h : Nat) : Nat := match W.getD h none with
  | none => 0
  | some (_, l) => l.length
def leftN (W : List Wt8) (fd : List Nat) : Nat → Nat
  | 0 => 0
  | n + 1 => leftN W fd n + if n ∈ fd then 0 else lenW W n
theorem leftN_add {fd : List Nat} {h : Nat} (hf : h ∉ fd) : ∀ n, leftN W (fd ++ [h]) n + (if h < n then lenW W h else 0) = leftN W fd n
  | 0 => rfl
  | n + 1 => by
    have := leftN_add hf n
    simp only [leftN, List.mem_append, List.mem_singleton]
    by_cases q : n = h
    · subst q
      simp [hf] at this ⊢; omega
    · simp only [q, or_false]
      by_cases z : h < n
      · have z2 : h < n + 1 := by omega
        simp only [z, z2, if_true] at this ⊢; omega
      · have z2 : ¬ h < n + 1 := by omega
        simp only [z, z2, if_false] at this ⊢; omega
structure D8 (W : List Wt8) (asker : Nat) (fd wa : List Nat) : Prop where
  nd : fd.Nodup
  fo : ∀ h ∈ fd, Rch W asker h ∧ W.getD h none ≠ none
  wt : ∀ h ∈ wa, Rch W asker h
  cl : ∀ h ∈ fd, ∀ b l, W.getD h none = some (b, l) → ∀ x ∈ l, x ∈ fd ∨ x ∈ wa ∨ W.getD x none = none
  as : asker ∈ fd ∨ asker ∈ wa ∨ W.getD asker none = none
theorem D8.start : D8 W asker [] [asker] := ⟨List.nodup_nil, fun h hh => (by cases hh), fun h hh => (by simp at hh; subst hh; exact .root), fun h hh => (by cases hh), .inr (.inl (by simp))⟩
theorem D8.skip {fd ws : List Nat} {h : Nat} (D : D8 W asker fd (ws ++ [h])) (q : W.getD h none = none ∨ h ∈ fd) : D8 W asker fd ws := by
  have k : ∀ x, x ∈ fd ∨ x ∈ ws ++ [h] ∨ W.getD x none = none → x ∈ fd ∨ x ∈ ws ∨ W.getD x none = none := fun x hx => by
    rcases hx with z | z | z
    · exact .inl z
    · rcases List.mem_append.mp z with z | z
      · exact .inr (.inl z)
      · simp at z; subst z
        rcases q with q | q
        · exact .inr (.inr q)
        · exact .inl q
    · exact .inr (.inr z)
  exact ⟨D.nd, D.fo, fun x hx => D.wt x (List.mem_append_left _ hx), fun x hx b l e y hy => k y (D.cl x hx b l e y hy), k _ D.as⟩
theorem D8.take {fd ws : List Nat} {h : Nat} {b : Bool} {l : List Nat} (D : D8 W asker fd (ws ++ [h])) (e : W.getD h none = some (b, l)) (q : h ∉ fd) : D8 W asker (fd ++ [h]) (ws ++ l) := by
  have rh : Rch W asker h := D.wt h (by simp)
  have k : ∀ x, x ∈ fd ∨ x ∈ ws ++ [h] ∨ W.getD x none = none → x ∈ fd ++ [h] ∨ x ∈ ws ++ l ∨ W.getD x none = none := fun x hx => by
    rcases hx with z | z | z
    · exact .inl (List.mem_append_left _ z)
    · rcases List.mem_append.mp z with z | z
      · exact .inr (.inl (List.mem_append_left _ z))
      · exact .inl (List.mem_append_right _ z)
    · exact .inr (.inr z)
  refine ⟨?_, ?_, ?_, ?_, k _ D.as⟩
  · rw [List.nodup_append]
    refine ⟨D.nd, by simp, ?_⟩
    intro a ha c hc z
    simp at hc; subst hc; subst z; exact q ha
  · intro x hx
    rcases List.mem_append.mp hx with z | z
    · exact D.fo x z
    · simp at z; subst z; exact ⟨rh, by rw [e]; simp⟩
  · intro x hx
    rcases List.mem_append.mp hx with z | z
    · exact D.wt x (List.mem_append_left _ z)
    · exact .step rh e z
  · intro x hx b' l' e' y hy
    rcases List.mem_append.mp hx with z | z
    · exact k y (D.cl x z b' l' e' y hy)
    · simp at z; subst z
      rw [e] at e'; cases e'
      exact .inr (.inl (List.mem_append_right _ hy))
theorem D8.done {fd : List Nat} (D : D8 W asker fd []) {h : Nat} (R : Rch W asker h) : W.getD h none ≠ none → h ∈ fd := by
  induction R with
  | root =>
    intro q
    rcases D.as with z | z | z
    · exact z
    · cases z
    · exact absurd z q
  | @step r x b l h e hx ih =>
    intro q
    rcases D.cl r (ih (by rw [e]; simp)) b l e x hx with z | z | z
    · exact z
    · cases z
    · exact absurd z q
theorem D8.iff {fd : List Nat} (D : D8 W asker fd []) (h : Nat) : h ∈ fd ↔ Rch W asker h ∧ W.getD h none ≠ none := ⟨D.fo h, fun q => D.done q.1 q.2⟩
/-- the sorted list of the members -/
theorem sort_uniq : ∀ {l l' : List Nat}, l.Pairwise (· < ·) → l'.Pairwise (· < ·) → (∀ x, x ∈ l ↔ x ∈ l') → l = l'
  | [], [], _, _, _ => rfl
  | [], y :: l', _, _, h => absurd ((h y).mpr (.head _)) (by simp)
  | x :: l, [], _, _, h => absurd ((h x).mp (.head _)) (by simp)
  | x :: l, y :: l', p, p', h => by
    obtain ⟨p1, p2⟩ := List.pairwise_cons.mp p
    obtain ⟨q1, q2⟩ := List.pairwise_cons.mp p'
    have e : x = y := by
      have h1 := (h x).mp (.head _)
      have h2 := (h y).mpr (.head _)
      cases h1 with
      | head => rfl
      | tail _ h1 =>
        cases h2 with
        | head => rfl
        | tail _ h2 => have := q1 x h1; have := p1 y h2; omega
    subst e
    congr 1
    refine sort_uniq p2 q2 fun z => ⟨fun hz => ?_, fun hz => ?_⟩
    · rcases List.mem_cons.mp ((h z).mp (.tail _ hz)) with w | w
      · have := p1 z hz; omega
      · exact w
    · rcases List.mem_cons.mp ((h z).mpr (.tail _ hz)) with w | w
      · have := q1 z hz; omega
      · exact w
theorem lt_of_le : ∀ {l : List Nat}, l.Pairwise (· ≤ ·) → l.Nodup → l.Pairwise (· < ·)
  | [], _, _ => .nil
  | x :: l, p, n => by
    obtain ⟨p1, p2⟩ := List.pairwise_cons.mp p
    obtain ⟨n1, n2⟩ := List.nodup_cons.mp n
    refine List.pairwise_cons.mpr ⟨fun y hy => ?_, lt_of_le p2 n2⟩
    have := p1 y hy
    have : x ≠ y := fun e => n1 (by rw [e]; exact hy)
    omega
theorem range_filter (n : Nat) (p : Nat → Bool) : ((List.range n).filter p).Pairwise (· < ·) := (List.pairwise_lt_range).filter p
theorem sorted_eq {fd so : List Nat} {n : Nat} (hp : so.Perm fd) (hs : so.Pairwise (· ≤ ·)) (nd : fd.Nodup) (hl : ∀ x ∈ fd, x < n) : so = (List.range n).filter fun x => decide (x ∈ fd) := by
  refine sort_uniq (lt_of_le hs (hp.nodup_iff.mpr nd)) (range_filter _ _) fun x => ?_
  rw [hp.mem_iff, List.mem_filter]
  simp only [List.mem_range, decide_eq_true_eq]
  exact ⟨fun h => ⟨hl x h, h⟩, fun h => h.2⟩
end Mine

set_option Elab.async false
set_option linter.unusedVariables false
namespace Mine
variable {W : List Wt8} {M : NetM} {S Cm : List Lt} {asker : Nat}

/- all that holds along the turns -/
structure K8 (W : List Wt8) (asker : Nat) (M : NetM) (S Cm : List Lt) : Prop where
  I : Inv7 W.length asker M
  T : InvT W.length M
  G : G8 W asker M
  J : J6 W M S Cm
  hS : ∀ t ∈ S, t.2.1 < W.length ∧ t.2.2 < W.length
  za : ∀ k < W.length, (M.hands k).askers.length ≤ Cm.length ∧ (M.hands k).heard.length ≤ Cm.length ∧ (M.hands k).others.length ≤ 100
theorem K8.bring (K : K8 W asker M S Cm) {p : Nat} {u : Lt} (hu : M.row[p]? = some u) : K8 W asker (bringM M p).1 (S ++ (bringM M p).2) (Cm ++ [u]) := by
  have I2 := K.I.bring p
  refine ⟨I2, K.T.bring K.I p, K.G.bring K.I K.T p, K.J.step rfl K.I hu, fun t ht => ?_, fun k hk => ?_⟩
  · rcases List.mem_append.mp ht with q | q
    · exact K.hS t q
    · refine I2.row t ?_
      have : (bringM M p).1.row = M.row.eraseIdx p ++ (bringM M p).2 := by unfold bringM; rw [hu]
      rw [this]; exact List.mem_append_right _ q
  · rw [List.length_append, List.length_singleton]
    have z := K.za k hk
    unfold bringM
    rw [hu]
    obtain ⟨w, s, r⟩ := u
    show (upd M.hands r _ k).askers.length ≤ _ ∧ (upd M.hands r _ k).heard.length ≤ _ ∧ (upd M.hands r _ k).others.length ≤ _
    unfold upd
    split
    · rename_i q
      subst q
      have sz := come_sizes (M.hands k) w s
      rw [(come_same _ _ _).others]; omega
    · omega
theorem K8.start (W : List Wt8) (asker : Nat) (ha : asker < W.length) (hW : ∀ w ∈ W, ∀ b l, w = some (b, l) → l ≠ [] ∧ l.Nodup ∧ (∀ x ∈ l, x < W.length) ∧ l.length ≤ 100) : K8 W asker (netM W asker) (netM W asker).row [] := by
  have I := Inv7.start W asker ha fun w hw b l e => (hW w hw b l e).2.2.1
  refine ⟨I, InvT.start W asker ha (fun w hw b l e => (hW w hw b l e).2.2.1) fun w hw b l e => (hW w hw b l e).2.1, G8.start W asker ha fun w hw b l e => (hW w hw b l e).1, J6.start W asker ha, I.row, fun k hk => ?_⟩
  have oth : (startM W asker k).others.length ≤ 100 := by
    unfold startM initM HandM.others
    dsimp only
    split
    · exact Nat.zero_le _
    · rename_i b l e
      exact (hW (W.getD k none) (by simp [List.getD_eq_getElem?_getD, hk]) b l e).2.2.2
  have bz := begin_sizes (startM W asker asker)
  show (upd (startM W asker) asker _ k).askers.length ≤ _ ∧ (upd (startM W asker) asker _ k).heard.length ≤ _ ∧ (upd (startM W asker) asker _ k).others.length ≤ _
  unfold upd
  split
  · rename_i e
    subst e
    rw [bz.1, bz.2.1, (begin_same _).others]; exact ⟨Nat.le_refl _, Nat.le_refl _, oth⟩
  · exact ⟨Nat.le_refl _, Nat.le_refl _, oth⟩
theorem K8.oth (K : K8 W asker M S Cm) {a : Nat} (ha : a < W.length) : othN M a = (lenW W a : Nat) := by
  unfold othN lenW HandM.others
  rw [K.G.wt a ha]
  split
  · rename_i e; rw [e]; rfl
  · rename_i b l e; rw [e]
theorem K8.most (K : K8 W asker M S Cm) (h : sumN W.length (fun a => ((lenW W a : Nat) : Int)) ≤ 96) : Cm.length + M.row.length ≤ 384 := by
  have h1 := K.J.few K.I K.hS
  have h2 : sumN W.length (othN M) = sumN W.length (fun a => ((lenW W a : Nat) : Int)) := sumN_congr fun a ha => K.oth ha
  have h3 := K.J.len
  omega
theorem lens_le {W : List Wt8} {i : Nat} (hn : W.length ≤ 24) (h : ∀ a < W.length, lenW W a ≤ 3 + if a = i then 24 else 0) : sumN W.length (fun a => ((lenW W a : Nat) : Int)) ≤ 96 := by
  have h1 : sumN W.length (fun a => ((lenW W a : Nat) : Int)) ≤ sumN W.length (fun a => 3 + if a = i then 24 else 0) := sumN_le fun a ha => by
    have := h a ha
    by_cases q : a = i
    · rw [if_pos q] at this ⊢; omega
    · rw [if_neg q] at this ⊢; omega
  have h2 : ∀ n, sumN n (fun _ => (3 : Int)) = 3 * n := fun n => by
    induction n with
    | zero => rfl
    | succ n ih => simp only [sumN]; rw [ih]; omega
  rw [sumN_add, h2, sumN_one] at h1
  split at h1 <;> omega
theorem lenW_set {W : List Wt8} {i : Nat} {w : Wt8} {n : Nat} (hw : ∀ b l, w = some (b, l) → l.length ≤ n) (h : ∀ a < W.length, lenW W a ≤ 3) : ∀ a < (W.set i w).length, lenW (W.set i w) a ≤ 3 + if a = i then n else 0 := by
  intro a ha
  rw [List.length_set] at ha
  by_cases q : a = i
  · subst q
    rw [if_pos rfl]
    unfold lenW
    rw [List.getD_eq_getElem?_getD, List.getElem?_set_self ha, Option.getD_some]
    split
    · omega
    · rename_i b l; have := hw b l rfl; omega
  · rw [if_neg q]
    have := h a ha
    unfold lenW at this ⊢
    rw [List.getD_eq_getElem?_getD, List.getElem?_set_ne (fun e => q e.symm), ← List.getD_eq_getElem?_getD]
    omega

/- the end -/
def shL (n : Nat) (M : NetM) : List Nat := (List.range n).filter fun h => (M.hands h).has && !(M.hands h).freed
def asL (n : Nat) (M : NetM) : List Nat := (List.range n).filter fun h => (M.hands h).has
theorem End8.inShown (E : End8 W asker M) {x : Nat} (R : Rch W asker x) (nf : (M.hands x).freed = false) : x ∈ shL W.length M := by
  have hx := E.rlt R
  have hw : W.getD x none ≠ none := fun e => by
    have := (E.G.hi x hx).nf (by rw [E.G.wt x hx]; exact e)
    rw [this] at nf; cases nf
  refine List.mem_filter.mpr ⟨by simpa using hx, ?_⟩
  rw [E.has R hw, nf]; rfl
theorem End8.inside (E : End8 W asker M) (hne : ∀ h b l, W.getD h none = some (b, l) → l ≠ []) {h : Nat} (hm : h ∈ shL W.length M) : ∃ b l, h < W.length ∧ W.getD h none = some (b, l) ∧ (l.filter fun x => decide (x ∈ shL W.length M)) ≠ [] ∧ (b = false → (l.filter fun x => decide (x ∈ shL W.length M)) = l) := by
  obtain ⟨hr, hp⟩ := List.mem_filter.mp hm
  have hh : h < W.length := by simpa using hr
  rw [Bool.and_eq_true, Bool.not_eq_true'] at hp
  obtain ⟨hha, hnf⟩ := hp
  obtain ⟨R, hw⟩ := (E.hasIff hh).mp hha
  cases e : W.getD h none with
  | none => exact absurd e hw
  | some q =>
    obtain ⟨b, l⟩ := q
    have ho := E.oth hh e
    have hi := E.G.hi h hh
    have g : ∀ x ∈ l, 0 < gam (M.hands h) x := fun x hx => by
      unfold gam; rw [if_pos hha, ho.1]
      have := List.count_pos_iff.mpr hx; omega
    have key : ∀ x ∈ l, x ∉ (M.hands h).heard → x ∈ shL W.length M := fun x hx hn => by
      refine E.inShown (.step R e hx) ?_
      have et := E.eta hh (E.lt hh e hx)
      cases z : (M.hands x).freed with
      | false => rfl
      | true =>
        rw [z, if_pos rfl] at et
        have := g x hx
        unfold Mine.eta at et
        rw [List.count_eq_zero_of_not_mem hn] at et
        simp at et; omega
    have lne : l ≠ [] := hne h b l e
    refine ⟨b, l, hh, rfl, ?_, ?_⟩
    · cases b with
      | true =>
        have := hi.al hnf ho.2
        rw [ho.1] at this
        have : ∃ x ∈ l, x ∉ (M.hands h).heard := by
          refine Classical.byContradiction fun q => ?_
          have : (l.all fun o => decide (o ∈ (M.hands h).heard)) = true := by
            rw [List.all_eq_true]
            intro x hx
            refine decide_eq_true (Classical.byContradiction fun z => q ⟨x, hx, z⟩)
          simp_all
        obtain ⟨x, hx, hn⟩ := this
        exact List.ne_nil_of_mem (List.mem_filter.mpr ⟨hx, decide_eq_true (key x hx hn)⟩)
      | false =>
        have hnil := hi.an hnf ho.2
        obtain ⟨x, hx⟩ := List.exists_mem_of_ne_nil _ lne
        exact List.ne_nil_of_mem (List.mem_filter.mpr ⟨hx, decide_eq_true (key x hx (by rw [hnil]; simp))⟩)
    · intro hb
      subst hb
      have hnil := hi.an hnf ho.2
      exact List.filter_eq_self.mpr fun x hx => decide_eq_true (key x hx (by rw [hnil]; simp))
theorem End8.shown (E : End8 W asker M) : shownM W.length M = shL W.length M := by
  unfold shownM shL
  conv => rhs; rw [← List.map_id ((List.range W.length).filter fun h => (M.hands h).has && !(M.hands h).freed)]
  refine List.map_congr_left fun x hx => ?_
  exact E.I.num x (by simpa using (List.mem_filter.mp hx).1)
/-- the mirror's own reckoning is the net's -/
theorem End8.freeOf (E : End8 W asker M) (hne : ∀ h b l, W.getD h none = some (b, l) → l ≠ []) {h : Nat} (R : Rch W asker h) : freeF W h = (M.hands h).freed := by
  rw [Bool.eq_iff_iff, freeF_iff hne, E.freeIff R]
theorem End8.asked (E : End8 W asker M) {fd : List Nat} (D : D8 W asker fd []) : ((List.range W.length).filter fun x => decide (x ∈ fd)) = asL W.length M := by
  unfold asL
  refine List.filter_congr fun x hx => ?_
  have hx : x < W.length := by simpa using hx
  rw [Bool.eq_iff_iff, decide_eq_true_eq, D.iff, E.hasIff hx]
theorem End8.shownOf (E : End8 W asker M) (hne : ∀ h b l, W.getD h none = some (b, l) → l ≠ []) : (asL W.length M).filter (fun h => !freeF W h) = shL W.length M := by
  unfold asL shL
  rw [List.filter_filter]
  refine List.filter_congr fun x hx => ?_
  have hx : x < W.length := by simpa using hx
  cases hh : (M.hands x).has with
  | false => simp
  | true => rw [E.freeOf hne ((E.hasIff hx).mp hh).1]; simp
def tmL (W : List Wt8) (h : Nat) : Int := match W.getD h none with
  | none => 0
  | some (_, l) => 2 * ((l.length : Nat) : Int) + 2 * (((l.filter (freeF W)).length : Nat) : Int)
theorem sum_filter (f : Nat → Int) (p : Nat → Bool) : ∀ n, (((List.range n).filter p).map f).sum = sumN n fun h => if p h = true then f h else 0
  | 0 => rfl
  | n + 1 => by
    rw [List.range_succ, List.filter_append, List.map_append, List.sum_append, sum_filter f p n]
    simp only [sumN]
    congr 1
    by_cases q : p n = true
    · simp [q]
    · simp [q]
theorem End8.letters (E : End8 W asker M) (hne : ∀ h b l, W.getD h none = some (b, l) → l ≠ []) (J : J6 W M S Cm) (hS : ∀ t ∈ S, t.2.1 < W.length ∧ t.2.2 < W.length) : ((asL W.length M).map (tmL W)).sum = ((M.many : Nat) : Int) := by
  unfold asL
  rw [sum_filter, E.total J hS]
  refine sumN_congr fun h hh => ?_
  unfold termN
  by_cases q : (M.hands h).has = true
  · rw [if_pos q, if_pos q]
    obtain ⟨R, hw⟩ := (E.hasIff hh).mp q
    unfold tmL
    cases e : W.getD h none with
    | none => exact absurd e hw
    | some z =>
      obtain ⟨b, l⟩ := z
      rw [(E.oth hh e).1]
      have : l.filter (freeF W) = l.filter fun b => (M.hands b).freed := List.filter_congr fun x hx => E.freeOf hne (.step R e hx)
      simp only [this]
  · rw [if_neg q, if_neg q]
end Mine

set_option Elab.async false
set_option linter.unusedVariables false
namespace Mine
open PySem PySem.W PySem.SeqAt PySem.Spec PyProof.Rows
variable {C : Cx} {k : Nat} {env : Env} {ρ : Rho} {H : Hp} {Q R : V → Hp → Prop}

theorem VRelL.ints {h : Heap} : ∀ {l : List Nat} {vs : List Value}, VRelL h H (l.map nv) vs → IntsAre vs (l.map fun (n : Nat) => (n : Int))
  | [], _, .nil => .nil
  | n :: l, _, .cons r rl => by
    cases r
    exact .cons _ _ (VRelL.ints rl)
theorem VRelL.ofInts {h : Heap} : ∀ {vs : List Value} {ns : List Int}, IntsAre vs ns → VRelL h H (ns.map V.int) vs
  | _, _, .nil => .nil
  | _, _, .cons n t hl => .cons (.int n t) (VRelL.ofInts hl)
theorem CallW.sortedN {v : V} {l : List Nat} (hl : lview H v = some (l.map nv)) (hn : l.length < 64) (h : ∀ l' : List Nat, l'.Perm l → l'.Pairwise (· ≤ ·) → Q (.lst (l'.map nv)) H) : CallW C k (.builtin "sorted") [v] Q R H := fun A a s xs S r => by
  cases r with
  | cons r r' =>
    cases r'
    obtain ⟨ad, ys, rfl, hy, rl⟩ := lview_list hl S r
    have hz : ys.size = l.length := by have := rl.length; simpa using this
    refine sorted_ints (vs := ys.toList) (by simpa using hy) (VRelL.ints rl) (by simpa [hz] using hn) fun out ns' a1 a2 a3 => ?_
    obtain ⟨e, he⟩ := sortedAll_at s.heap ys.toList out
    have hk : ∀ b o, s.heap.get? b = some o → (sortedAll s.heap ys.toList out).get? b = some o := fun b o => sortedAll_old
    obtain ⟨l', rfl⟩ : ∃ l' : List Nat, ns' = l'.map fun (n : Nat) => (n : Int) := by
      refine ⟨ns'.map Int.toNat, ?_⟩
      rw [List.map_map]
      conv => lhs; rw [← List.map_id ns']
      refine List.map_congr_left fun x hx => ?_
      obtain ⟨y, _, rfl⟩ := List.mem_map.mp (a2.mem_iff.mp hx)
      simp
    have p1 : l'.Perm l := by
      have := a2.map Int.toNat
      rw [List.map_map, List.map_map] at this
      have e : (Int.toNat ∘ fun (n : Nat) => (n : Int)) = id := by funext x; simp
      rw [e, List.map_id, List.map_id] at this
      exact this
    have p2 : l'.Pairwise (· ≤ ·) := by
      have := List.pairwise_map.mp a3
      exact this.imp fun h => by omega
    have hn : H (s.heap.objs.size + 1) = Option.none := S.fresh (Nat.le_succ _)
    exact ⟨.lst (l'.map nv), H, h l' p1 p2, S.grown (s' := { s with heap := sortedAll s.heap ys.toList out }) hk rfl rfl, .lst (xs := out) ⟨_, he, rfl, _, rfl⟩ hn (by
      have := VRelL.ofInts (h := sortedAll s.heap ys.toList out) (H := H) a1
      rw [List.map_map] at this
      exact this), Ext.grown hk⟩

theorem extend_any (l : Addr) (items : Array Value) (n : Nat) (b : Addr) (dc : Option Addr) (sl : Array (Option Value)) (items2 : Array Value) (n2 : Nat) (hc0 : ¬(!items.isEmpty && Builtin.List.listTooLong (items.size + items2.size)) = true) (hc1 : items.size ≤ sizeLine) (hs2 : items.size + items2.size ≤ sizeLine + 1) :
    Meets (Builtin.«list.extend» ⟨[.ref l, .ref b], []⟩) (fun _ R s => s.heap.get? l = some { cls := .type "list", dict := none, data := .seq items n, slots := #[] } ∧ s.heap.get? b = some { cls := .type "list", dict := dc, data := .seq items2 n2, slots := sl } ∧ R (.ok (.ret Value.none)) { s with heap := s.heap.update l (Obj.mapSeq fun x => x ++ items2), toks := s.toks }) :=
  .of_wp fun prog w A R s h => by
    obtain ⟨hp, g, d, tk, os⟩ := s
    obtain ⟨hl, hb, h⟩ := h
    have f1 := AutoSeq1.idx_int
    have f2 := AutoSeq1.sub_tuple_tuple
    have f3 := AutoSeq1.sub_list_list
    have f4 := AutoSeq1.sub_tuple_list
    have f5 := AutoSeq1.sub_list_tuple
    have hz' : (items ++ items2).size ≤ sizeLine + 1 := by rw [Array.size_append]; exact hs2
    wp_walk using (wpAny_updateSeq hl rfl (hz := hc1) (_hz' := hz')), AutoSeq1.wpAny_loadPart' hl, AutoSeq1.wpAny_loadPart' hb
    exact ⟨_, rfl, h⟩
theorem CallW.extendF {a : Addr} {v : V} {l l2 : List V} (ha : H a = some (.list l)) (hb : lview H v = some l2) (hn : l.length + l2.length ≤ 50000) (h : Q .none (H.set a (.list (l ++ l2)))) : CallW C k (.builtin "list.extend") [.ref a, v] Q R H := fun A lv s xs S r => by
  cases r with
  | cons r1 r' => cases r' with
    | cons r2 r' =>
      cases r'; cases r1
      obtain ⟨xs, ⟨n, ho⟩, rl⟩ := S.objs _ _ ha
      obtain ⟨b, ys, rfl, ⟨o, e, c, n2, d⟩, rl2⟩ := lview_list hb S r2
      obtain ⟨c', dc, dd, sl⟩ := o
      dsimp only at c d
      subst c d
      have hz : xs.size = l.length := by have := rl.length; simpa using this
      have hz2 : ys.size = l2.length := by have := rl2.length; simpa using this
      have hs := sizeLine_eq
      obtain ⟨S', E'⟩ := listUpd (l' := l ++ l2) (f := fun x => x ++ ys) S ha ho fun h' H' E => by simpa using (rl.extV E).append (rl2.extV E)
      refine call_meets F.slot_list_extend ⟨_, ho, rfl⟩ F.entry_list_extend (F.args_list_extend_2 _ _) (extend_any a xs n b dc sl ys n2 ?_ (by omega) (by omega)) ⟨ho, e, ?_⟩
      · have : Builtin.List.listTooLong (xs.size + ys.size) = false := by
          unfold Builtin.List.listTooLong; simp; omega
        simp [this]
      · exact ⟨.none, _, h, S', .none, E'⟩
end Mine

set_option Elab.async false
set_option maxRecDepth 100000
set_option maxHeartbeats 8000000
namespace Mine
open PySem PySem.W PyProof.Rows
noncomputable def K08 (P : Params) : Frag := [
  (2, (Obj.mk Value.none Option.none (Data.dict (List.toArray []) 0) (List.toArray []))),
  (3, (Obj.mk (Value.type "dict") Option.none (Data.dict (List.toArray [(DictEntry.mk (PyData.keyHash P (Str.ofString "__name__")) (Value.str (Str.ofString "__name__") 165) (Value.str (Str.ofString "law_uf060008_08") 493)), (DictEntry.mk (PyData.keyHash P (Str.ofString "__doc__")) (Value.str (Str.ofString "__doc__") 166) Value.none), (DictEntry.mk (PyData.keyHash P (Str.ofString "__package__")) (Value.str (Str.ofString "__package__") 167) Value.none), (DictEntry.mk (PyData.keyHash P (Str.ofString "__loader__")) (Value.str (Str.ofString "__loader__") 168) (Value.builtin "__main__.__loader__#opaque")), (DictEntry.mk (PyData.keyHash P (Str.ofString "__spec__")) (Value.str (Str.ofString "__spec__") 169) Value.none), (DictEntry.mk (PyData.keyHash P (Str.ofString "__annotations__")) (Value.str (Str.ofString "__annotations__") 170) (Value.ref 6)), (DictEntry.mk (PyData.keyHash P (Str.ofString "__builtins__")) (Value.str (Str.ofString "__builtins__") 171) (Value.ref 4)), (DictEntry.mk (PyData.keyHash P (Str.ofString "__file__")) (Value.str (Str.ofString "__file__") 173) (Value.str (Str.ofString "/claim/cut.py") 172)), (DictEntry.mk (PyData.keyHash P (Str.ofString "__cached__")) (Value.str (Str.ofString "__cached__") 174) Value.none), (DictEntry.mk (PyData.keyHash P (Str.ofString "_wall")) (Value.str (Str.ofString "_wall") 193) (Value.ref 21)), (DictEntry.mk (PyData.keyHash P (Str.ofString "BellError")) (Value.str (Str.ofString "BellError") 213) (Value.ref 31)), (DictEntry.mk (PyData.keyHash P (Str.ofString "BadWaits")) (Value.str (Str.ofString "BadWaits") 238) (Value.ref 51)), (DictEntry.mk (PyData.keyHash P (Str.ofString "NoHand")) (Value.str (Str.ofString "NoHand") 254) (Value.ref 63)), (DictEntry.mk (PyData.keyHash P (Str.ofString "NoLetter")) (Value.str (Str.ofString "NoLetter") 270) (Value.ref 75)), (DictEntry.mk (PyData.keyHash P (Str.ofString "Hand")) (Value.str (Str.ofString "Hand") 351) (Value.ref 125)), (DictEntry.mk (PyData.keyHash P (Str.ofString "MOST_HANDS")) (Value.str (Str.ofString "MOST_HANDS") 355) (Value.int 40 354)), (DictEntry.mk (PyData.keyHash P (Str.ofString "is_place")) (Value.str (Str.ofString "is_place") 363) (Value.ref 136)), (DictEntry.mk (PyData.keyHash P (Str.ofString "is_wait")) (Value.str (Str.ofString "is_wait") 373) (Value.ref 143)), (DictEntry.mk (PyData.keyHash P (Str.ofString "need")) (Value.str (Str.ofString "need") 382) (Value.ref 150)), (DictEntry.mk (PyData.keyHash P (Str.ofString "Net")) (Value.str (Str.ofString "Net") 492) (Value.ref 233)), (DictEntry.mk (PyData.keyHash P (Str.ofString "_law_cell_at")) (Value.str (Str.ofString "_law_cell_at") 502) (Value.ref 244)), (DictEntry.mk (PyData.keyHash P (Str.ofString "_law_mixed")) (Value.str (Str.ofString "_law_mixed") 511) (Value.ref 251)), (DictEntry.mk (PyData.keyHash P (Str.ofString "_law_wait_by")) (Value.str (Str.ofString "_law_wait_by") 523) (Value.ref 258)), (DictEntry.mk (PyData.keyHash P (Str.ofString "_law_waits")) (Value.str (Str.ofString "_law_waits") 529) (Value.ref 263)), (DictEntry.mk (PyData.keyHash P (Str.ofString "_law_freed")) (Value.str (Str.ofString "_law_freed") 535) (Value.ref 268)), (DictEntry.mk (PyData.keyHash P (Str.ofString "_law_asking")) (Value.str (Str.ofString "_law_asking") 546) (Value.ref 275)), (DictEntry.mk (PyData.keyHash P (Str.ofString "_law_end")) (Value.str (Str.ofString "_law_end") 552) (Value.ref 280)), (DictEntry.mk (PyData.keyHash P (Str.ofString "law")) (Value.str (Str.ofString "law") 558) (Value.ref 285))]) 28) (List.toArray []))),
  (20, (Obj.mk (Value.type "code") Option.none (Data.fields (List.toArray [(Value.str (Str.ofString "_wall") 187), (Value.str (Str.ofString "_wall") 188), (Value.str (Str.ofString "/claim/cut.py") 189), (Value.int 1 0), (Value.int 1 0), (Value.int 0 0), (Value.int 0 0), (Value.int 3 0), (Value.ref 15), (Value.bool Bool.true), (Value.int 181 0), (Value.ref 16), Value.none, (Value.ref 17), (Value.ref 18), (Value.ref 19), (Value.int 191 0), (Value.int 1 0), (Value.str (Str.ofString "/claim/cut.py") 192)])) (List.toArray []))),
  (21, fobj (stAt PySem.Challenge.rw_uf060008_08.prog 0) (Str.ofString "_wall") (Str.ofString "_wall") Value.none Value.none Value.none (Value.str (Str.ofString "__main__") 164) Option.none (Value.ref 20) Value.none),
  (30, (Obj.mk (Value.type "dict") Option.none (Data.dict (List.toArray [(DictEntry.mk (PyData.keyHash P (Str.ofString "__module__")) (Value.str (Str.ofString "__module__") 203) (Value.str (Str.ofString "stuckbell.errors") 194)), (DictEntry.mk (PyData.keyHash P (Str.ofString "__firstlineno__")) (Value.str (Str.ofString "__firstlineno__") 207) (Value.int 5 206)), (DictEntry.mk (PyData.keyHash P (Str.ofString "__static_attributes__")) (Value.str (Str.ofString "__static_attributes__") 208) (Value.ref 29)), (DictEntry.mk (PyData.keyHash P (Str.ofString "__weakref__")) (Value.str (Str.ofString "__weakref__") 210) (Value.ref 32)), (DictEntry.mk (PyData.keyHash P (Str.ofString "__doc__")) (Value.str (Str.ofString "__doc__") 211) Value.none)]) 3) (List.toArray []))),
  (31, (Obj.mk (Value.type "type") Option.none (Data.cls (ClassData.mk (Str.ofString "BellError") [(Value.type "ValueError")] [(Value.ref 31), (Value.type "ValueError"), (Value.type "Exception"), (Value.type "BaseException"), (Value.type "object")] 30 (Str.ofString "BellError") Bool.true [] [(Value.ref 51), (Value.ref 63), (Value.ref 75)] Bool.false Option.none Bool.false)) (List.toArray [(Option.some (Value.ref 22)), Option.none, (Option.some (Value.str (Str.ofString "BellError") 196)), (Option.some (Value.str (Str.ofString "BellError") 204)), (Option.some (Value.builtin "ValueError.__new__")), (Option.some (Value.bool Bool.true))]))),
  (32, (Obj.mk (Value.type "getset_descriptor") Option.none (Data.fields (List.toArray [(Value.str (Str.ofString "__weakref__") 209), (Value.ref 31), (Value.builtin "ExceptionGroup.__weakref__"), Value.none])) (List.toArray []))),
  (47, (Obj.mk (Value.type "code") Option.none (Data.fields (List.toArray [(Value.str (Str.ofString "__init__") 226), (Value.str (Str.ofString "BadWaits.__init__") 227), (Value.str (Str.ofString "/claim/cut.py") 228), (Value.int 9 0), (Value.int 2 0), (Value.int 0 0), (Value.int 0 0), (Value.int 3 0), (Value.ref 42), (Value.bool Bool.true), (Value.int 181 0), (Value.ref 43), Value.none, (Value.ref 44), (Value.ref 45), (Value.ref 46), (Value.int 231 0), (Value.int 9 0), (Value.str (Str.ofString "/claim/cut.py") 232)])) (List.toArray []))),
  (48, fobj (stIn PySem.Challenge.rw_uf060008_08.prog 3 0) (Str.ofString "__init__") (Str.ofString "BadWaits.__init__") Value.none Value.none Value.none (Value.str (Str.ofString "stuckbell.errors") 194) Option.none (Value.ref 47) Value.none),
  (50, (Obj.mk (Value.type "dict") Option.none (Data.dict (List.toArray [(DictEntry.mk (PyData.keyHash P (Str.ofString "__module__")) (Value.str (Str.ofString "__module__") 221) (Value.str (Str.ofString "stuckbell.errors") 194)), (DictEntry.mk (PyData.keyHash P (Str.ofString "__firstlineno__")) (Value.str (Str.ofString "__firstlineno__") 225) (Value.int 7 224)), (DictEntry.mk (PyData.keyHash P (Str.ofString "__init__")) (Value.str (Str.ofString "__init__") 233) (Value.ref 48)), (DictEntry.mk (PyData.keyHash P (Str.ofString "__static_attributes__")) (Value.str (Str.ofString "__static_attributes__") 235) (Value.ref 49)), (DictEntry.mk (PyData.keyHash P (Str.ofString "__doc__")) (Value.str (Str.ofString "__doc__") 236) Value.none)]) 2) (List.toArray []))),
  (51, (Obj.mk (Value.type "type") Option.none (Data.cls (ClassData.mk (Str.ofString "BadWaits") [(Value.ref 31)] [(Value.ref 51), (Value.ref 31), (Value.type "ValueError"), (Value.type "Exception"), (Value.type "BaseException"), (Value.type "object")] 50 (Str.ofString "BadWaits") Bool.true [] [] Bool.false Option.none Bool.false)) (List.toArray [(Option.some (Value.ref 35)), Option.none, (Option.some (Value.str (Str.ofString "BadWaits") 214)), (Option.some (Value.str (Str.ofString "BadWaits") 222)), (Option.some (Value.builtin "ValueError.__new__")), (Option.some (Value.bool Bool.true))]))),
  (62, (Obj.mk (Value.type "dict") Option.none (Data.dict (List.toArray [(DictEntry.mk (PyData.keyHash P (Str.ofString "__module__")) (Value.str (Str.ofString "__module__") 246) (Value.str (Str.ofString "stuckbell.errors") 194)), (DictEntry.mk (PyData.keyHash P (Str.ofString "__firstlineno__")) (Value.str (Str.ofString "__firstlineno__") 250) (Value.int 12 249)), (DictEntry.mk (PyData.keyHash P (Str.ofString "__static_attributes__")) (Value.str (Str.ofString "__static_attributes__") 251) (Value.ref 61)), (DictEntry.mk (PyData.keyHash P (Str.ofString "__doc__")) (Value.str (Str.ofString "__doc__") 252) Value.none)]) 2) (List.toArray []))),
  (63, (Obj.mk (Value.type "type") Option.none (Data.cls (ClassData.mk (Str.ofString "NoHand") [(Value.ref 31)] [(Value.ref 63), (Value.ref 31), (Value.type "ValueError"), (Value.type "Exception"), (Value.type "BaseException"), (Value.type "object")] 62 (Str.ofString "NoHand") Bool.true [] [] Bool.false Option.none Bool.false)) (List.toArray [(Option.some (Value.ref 54)), Option.none, (Option.some (Value.str (Str.ofString "NoHand") 239)), (Option.some (Value.str (Str.ofString "NoHand") 247)), (Option.some (Value.builtin "ValueError.__new__")), (Option.some (Value.bool Bool.true))]))),
  (74, (Obj.mk (Value.type "dict") Option.none (Data.dict (List.toArray [(DictEntry.mk (PyData.keyHash P (Str.ofString "__module__")) (Value.str (Str.ofString "__module__") 262) (Value.str (Str.ofString "stuckbell.errors") 194)), (DictEntry.mk (PyData.keyHash P (Str.ofString "__firstlineno__")) (Value.str (Str.ofString "__firstlineno__") 266) (Value.int 14 265)), (DictEntry.mk (PyData.keyHash P (Str.ofString "__static_attributes__")) (Value.str (Str.ofString "__static_attributes__") 267) (Value.ref 73)), (DictEntry.mk (PyData.keyHash P (Str.ofString "__doc__")) (Value.str (Str.ofString "__doc__") 268) Value.none)]) 2) (List.toArray []))),
  (75, (Obj.mk (Value.type "type") Option.none (Data.cls (ClassData.mk (Str.ofString "NoLetter") [(Value.ref 31)] [(Value.ref 75), (Value.ref 31), (Value.type "ValueError"), (Value.type "Exception"), (Value.type "BaseException"), (Value.type "object")] 74 (Str.ofString "NoLetter") Bool.true [] [] Bool.false Option.none Bool.false)) (List.toArray [(Option.some (Value.ref 66)), Option.none, (Option.some (Value.str (Str.ofString "NoLetter") 255)), (Option.some (Value.str (Str.ofString "NoLetter") 263)), (Option.some (Value.builtin "ValueError.__new__")), (Option.some (Value.bool Bool.true))]))),
  (90, (Obj.mk (Value.type "code") Option.none (Data.fields (List.toArray [(Value.str (Str.ofString "__init__") 285), (Value.str (Str.ofString "Hand.__init__") 286), (Value.str (Str.ofString "/claim/cut.py") 287), (Value.int 19 0), (Value.int 4 0), (Value.int 0 0), (Value.int 0 0), (Value.int 3 0), (Value.ref 85), (Value.bool Bool.true), (Value.int 181 0), (Value.ref 86), Value.none, (Value.ref 87), (Value.ref 88), (Value.ref 89), (Value.int 292 0), (Value.int 19 0), (Value.str (Str.ofString "/claim/cut.py") 293)])) (List.toArray []))),
  (91, fobj (stIn PySem.Challenge.rw_uf060008_08.prog 7 0) (Str.ofString "__init__") (Str.ofString "Hand.__init__") Value.none Value.none Value.none (Value.str (Str.ofString "stuckbell.hand") 271) Option.none (Value.ref 90) Value.none),
  (95, (Obj.mk (Value.type "code") Option.none (Data.fields (List.toArray [(Value.str (Str.ofString "send") 295), (Value.str (Str.ofString "Hand.send") 296), (Value.str (Str.ofString "/claim/cut.py") 297), (Value.int 34 0), (Value.int 3 0), (Value.int 0 0), (Value.int 0 0), (Value.int 3 0), (Value.ref 92), (Value.bool Bool.true), (Value.int 181 0), (Value.ref 93), Value.none, Value.none, Value.none, (Value.ref 94), (Value.int 298 0), (Value.int 34 0), (Value.str (Str.ofString "/claim/cut.py") 299)])) (List.toArray []))),
  (96, fobj (stIn PySem.Challenge.rw_uf060008_08.prog 7 1) (Str.ofString "send") (Str.ofString "Hand.send") Value.none Value.none Value.none (Value.str (Str.ofString "stuckbell.hand") 271) Option.none (Value.ref 95) Value.none),
  (102, (Obj.mk (Value.type "code") Option.none (Data.fields (List.toArray [(Value.str (Str.ofString "begin") 301), (Value.str (Str.ofString "Hand.begin") 302), (Value.str (Str.ofString "/claim/cut.py") 303), (Value.int 38 0), (Value.int 1 0), (Value.int 0 0), (Value.int 0 0), (Value.int 3 0), (Value.ref 97), (Value.bool Bool.true), (Value.int 181 0), (Value.ref 98), Value.none, (Value.ref 99), (Value.ref 100), (Value.ref 101), (Value.int 305 0), (Value.int 38 0), (Value.str (Str.ofString "/claim/cut.py") 306)])) (List.toArray []))),
  (103, fobj (stIn PySem.Challenge.rw_uf060008_08.prog 7 2) (Str.ofString "begin") (Str.ofString "Hand.begin") Value.none Value.none Value.none (Value.str (Str.ofString "stuckbell.hand") 271) Option.none (Value.ref 102) Value.none),
  (109, (Obj.mk (Value.type "code") Option.none (Data.fields (List.toArray [(Value.str (Str.ofString "come") 308), (Value.str (Str.ofString "Hand.come") 309), (Value.str (Str.ofString "/claim/cut.py") 310), (Value.int 44 0), (Value.int 2 0), (Value.int 0 0), (Value.int 0 0), (Value.int 3 0), (Value.ref 104), (Value.bool Bool.true), (Value.int 181 0), (Value.ref 105), Value.none, (Value.ref 106), (Value.ref 107), (Value.ref 108), (Value.int 317 0), (Value.int 44 0), (Value.str (Str.ofString "/claim/cut.py") 318)])) (List.toArray []))),
  (110, fobj (stIn PySem.Challenge.rw_uf060008_08.prog 7 3) (Str.ofString "come") (Str.ofString "Hand.come") Value.none Value.none Value.none (Value.str (Str.ofString "stuckbell.hand") 271) Option.none (Value.ref 109) Value.none),
  (116, (Obj.mk (Value.type "code") Option.none (Data.fields (List.toArray [(Value.str (Str.ofString "asked") 320), (Value.str (Str.ofString "Hand.asked") 321), (Value.str (Str.ofString "/claim/cut.py") 322), (Value.int 62 0), (Value.int 2 0), (Value.int 0 0), (Value.int 0 0), (Value.int 3 0), (Value.ref 111), (Value.bool Bool.true), (Value.int 181 0), (Value.ref 112), Value.none, (Value.ref 113), (Value.ref 114), (Value.ref 115), (Value.int 325 0), (Value.int 62 0), (Value.str (Str.ofString "/claim/cut.py") 326)])) (List.toArray []))),
  (117, fobj (stIn PySem.Challenge.rw_uf060008_08.prog 7 4) (Str.ofString "asked") (Str.ofString "Hand.asked") Value.none Value.none Value.none (Value.str (Str.ofString "stuckbell.hand") 271) Option.none (Value.ref 116) Value.none),
  (121, (Obj.mk (Value.type "code") Option.none (Data.fields (List.toArray [(Value.str (Str.ofString "told") 328), (Value.str (Str.ofString "Hand.told") 329), (Value.str (Str.ofString "/claim/cut.py") 330), (Value.int 70 0), (Value.int 2 0), (Value.int 0 0), (Value.int 0 0), (Value.int 3 0), (Value.ref 118), (Value.bool Bool.true), (Value.int 181 0), (Value.ref 119), Value.none, Value.none, Value.none, (Value.ref 120), (Value.int 331 0), (Value.int 70 0), (Value.str (Str.ofString "/claim/cut.py") 332)])) (List.toArray []))),
  (122, fobj (stIn PySem.Challenge.rw_uf060008_08.prog 7 5) (Str.ofString "told") (Str.ofString "Hand.told") Value.none Value.none Value.none (Value.str (Str.ofString "stuckbell.hand") 271) Option.none (Value.ref 121) Value.none),
  (124, (Obj.mk (Value.type "dict") Option.none (Data.dict (List.toArray [(DictEntry.mk (PyData.keyHash P (Str.ofString "__module__")) (Value.str (Str.ofString "__module__") 280) (Value.str (Str.ofString "stuckbell.hand") 271)), (DictEntry.mk (PyData.keyHash P (Str.ofString "__firstlineno__")) (Value.str (Str.ofString "__firstlineno__") 284) (Value.int 17 283)), (DictEntry.mk (PyData.keyHash P (Str.ofString "__init__")) (Value.str (Str.ofString "__init__") 294) (Value.ref 91)), (DictEntry.mk (PyData.keyHash P (Str.ofString "send")) (Value.str (Str.ofString "send") 300) (Value.ref 96)), (DictEntry.mk (PyData.keyHash P (Str.ofString "begin")) (Value.str (Str.ofString "begin") 307) (Value.ref 103)), (DictEntry.mk (PyData.keyHash P (Str.ofString "come")) (Value.str (Str.ofString "come") 319) (Value.ref 110)), (DictEntry.mk (PyData.keyHash P (Str.ofString "asked")) (Value.str (Str.ofString "asked") 327) (Value.ref 117)), (DictEntry.mk (PyData.keyHash P (Str.ofString "told")) (Value.str (Str.ofString "told") 333) (Value.ref 122)), (DictEntry.mk (PyData.keyHash P (Str.ofString "__static_attributes__")) (Value.str (Str.ofString "__static_attributes__") 344) (Value.ref 123)), (DictEntry.mk (PyData.keyHash P (Str.ofString "__dict__")) (Value.str (Str.ofString "__dict__") 346) (Value.ref 126)), (DictEntry.mk (PyData.keyHash P (Str.ofString "__weakref__")) (Value.str (Str.ofString "__weakref__") 348) (Value.ref 127)), (DictEntry.mk (PyData.keyHash P (Str.ofString "__doc__")) (Value.str (Str.ofString "__doc__") 349) Value.none)]) 4) (List.toArray []))),
  (125, (Obj.mk (Value.type "type") Option.none (Data.cls (ClassData.mk (Str.ofString "Hand") [(Value.type "object")] [(Value.ref 125), (Value.type "object")] 124 (Str.ofString "Hand") Bool.true [] [] Bool.false Option.none Bool.false)) (List.toArray [Option.none, Option.none, (Option.some (Value.str (Str.ofString "Hand") 273)), (Option.some (Value.str (Str.ofString "Hand") 281)), (Option.some (Value.builtin "object.__new__")), (Option.some (Value.bool Bool.true))]))),
  (126, (Obj.mk (Value.type "getset_descriptor") Option.none (Data.fields (List.toArray [(Value.str (Str.ofString "__dict__") 345), (Value.ref 125), (Value.builtin "function.__dict__"), (Value.builtin "function.__dict__#set")])) (List.toArray []))),
  (127, (Obj.mk (Value.type "getset_descriptor") Option.none (Data.fields (List.toArray [(Value.str (Str.ofString "__weakref__") 347), (Value.ref 125), (Value.builtin "ExceptionGroup.__weakref__"), Value.none])) (List.toArray []))),
  (135, (Obj.mk (Value.type "code") Option.none (Data.fields (List.toArray [(Value.str (Str.ofString "is_place") 356), (Value.str (Str.ofString "is_place") 357), (Value.str (Str.ofString "/claim/cut.py") 358), (Value.int 80 0), (Value.int 2 0), (Value.int 0 0), (Value.int 0 0), (Value.int 3 0), (Value.ref 130), (Value.bool Bool.true), (Value.int 181 0), (Value.ref 131), Value.none, (Value.ref 132), (Value.ref 133), (Value.ref 134), (Value.int 361 0), (Value.int 80 0), (Value.str (Str.ofString "/claim/cut.py") 362)])) (List.toArray []))),
  (136, fobj (stAt PySem.Challenge.rw_uf060008_08.prog 10) (Str.ofString "is_place") (Str.ofString "is_place") Value.none Value.none Value.none (Value.str (Str.ofString "stuckbell.waits") 352) Option.none (Value.ref 135) Value.none),
  (142, (Obj.mk (Value.type "code") Option.none (Data.fields (List.toArray [(Value.str (Str.ofString "is_wait") 364), (Value.str (Str.ofString "is_wait") 365), (Value.str (Str.ofString "/claim/cut.py") 366), (Value.int 82 0), (Value.int 2 0), (Value.int 0 0), (Value.int 0 0), (Value.int 3 0), (Value.ref 137), (Value.bool Bool.true), (Value.int 181 0), (Value.ref 138), Value.none, (Value.ref 139), (Value.ref 140), (Value.ref 141), (Value.int 371 0), (Value.int 82 0), (Value.str (Str.ofString "/claim/cut.py") 372)])) (List.toArray []))),
  (143, fobj (stAt PySem.Challenge.rw_uf060008_08.prog 11) (Str.ofString "is_wait") (Str.ofString "is_wait") Value.none Value.none Value.none (Value.str (Str.ofString "stuckbell.waits") 352) Option.none (Value.ref 142) Value.none),
  (149, (Obj.mk (Value.type "code") Option.none (Data.fields (List.toArray [(Value.str (Str.ofString "need") 374), (Value.str (Str.ofString "need") 375), (Value.str (Str.ofString "/claim/cut.py") 376), (Value.int 95 0), (Value.int 1 0), (Value.int 0 0), (Value.int 0 0), (Value.int 3 0), (Value.ref 144), (Value.bool Bool.true), (Value.int 181 0), (Value.ref 145), Value.none, (Value.ref 146), (Value.ref 147), (Value.ref 148), (Value.int 380 0), (Value.int 95 0), (Value.str (Str.ofString "/claim/cut.py") 381)])) (List.toArray []))),
  (150, fobj (stAt PySem.Challenge.rw_uf060008_08.prog 12) (Str.ofString "need") (Str.ofString "need") Value.none Value.none Value.none (Value.str (Str.ofString "stuckbell.waits") 352) Option.none (Value.ref 149) Value.none),
  (161, (Obj.mk (Value.type "code") Option.none (Data.fields (List.toArray [(Value.str (Str.ofString "__init__") 397), (Value.str (Str.ofString "Net.__init__") 398), (Value.str (Str.ofString "/claim/cut.py") 399), (Value.int 105 0), (Value.int 3 0), (Value.int 0 0), (Value.int 0 0), (Value.int 3 0), (Value.ref 158), (Value.bool Bool.true), (Value.int 181 0), (Value.ref 159), Value.none, Value.none, Value.none, (Value.ref 160), (Value.int 400 0), (Value.int 105 0), (Value.str (Str.ofString "/claim/cut.py") 401)])) (List.toArray []))),
  (162, fobj (stIn PySem.Challenge.rw_uf060008_08.prog 14 0) (Str.ofString "__init__") (Str.ofString "Net.__init__") Value.none Value.none Value.none (Value.str (Str.ofString "stuckbell.net") 383) Option.none (Value.ref 161) Value.none),
  (168, (Obj.mk (Value.type "code") Option.none (Data.fields (List.toArray [(Value.str (Str.ofString "put") 403), (Value.str (Str.ofString "Net.put") 404), (Value.str (Str.ofString "/claim/cut.py") 405), (Value.int 115 0), (Value.int 2 0), (Value.int 0 0), (Value.int 0 0), (Value.int 3 0), (Value.ref 163), (Value.bool Bool.true), (Value.int 181 0), (Value.ref 164), Value.none, (Value.ref 165), (Value.ref 166), (Value.ref 167), (Value.int 408 0), (Value.int 115 0), (Value.str (Str.ofString "/claim/cut.py") 409)])) (List.toArray []))),
  (169, fobj (stIn PySem.Challenge.rw_uf060008_08.prog 14 1) (Str.ofString "put") (Str.ofString "Net.put") Value.none Value.none Value.none (Value.str (Str.ofString "stuckbell.net") 383) Option.none (Value.ref 168) Value.none),
  (175, (Obj.mk (Value.type "code") Option.none (Data.fields (List.toArray [(Value.str (Str.ofString "hand") 411), (Value.str (Str.ofString "Net.hand") 412), (Value.str (Str.ofString "/claim/cut.py") 413), (Value.int 119 0), (Value.int 2 0), (Value.int 0 0), (Value.int 0 0), (Value.int 3 0), (Value.ref 170), (Value.bool Bool.true), (Value.int 181 0), (Value.ref 171), Value.none, (Value.ref 172), (Value.ref 173), (Value.ref 174), (Value.int 416 0), (Value.int 119 0), (Value.str (Str.ofString "/claim/cut.py") 417)])) (List.toArray []))),
  (176, fobj (stIn PySem.Challenge.rw_uf060008_08.prog 14 2) (Str.ofString "hand") (Str.ofString "Net.hand") Value.none Value.none Value.none (Value.str (Str.ofString "stuckbell.net") 383) Option.none (Value.ref 175) Value.none),
  (182, (Obj.mk (Value.type "code") Option.none (Data.fields (List.toArray [(Value.str (Str.ofString "letters") 419), (Value.str (Str.ofString "Net.letters") 420), (Value.str (Str.ofString "/claim/cut.py") 421), (Value.int 124 0), (Value.int 1 0), (Value.int 0 0), (Value.int 0 0), (Value.int 3 0), (Value.ref 177), (Value.bool Bool.true), (Value.int 181 0), (Value.ref 178), Value.none, (Value.ref 179), (Value.ref 180), (Value.ref 181), (Value.int 423 0), (Value.int 124 0), (Value.str (Str.ofString "/claim/cut.py") 424)])) (List.toArray []))),
  (183, fobj (stIn PySem.Challenge.rw_uf060008_08.prog 14 3) (Str.ofString "letters") (Str.ofString "Net.letters") Value.none Value.none Value.none (Value.str (Str.ofString "stuckbell.net") 383) Option.none (Value.ref 182) Value.none),
  (189, (Obj.mk (Value.type "code") Option.none (Data.fields (List.toArray [(Value.str (Str.ofString "bring") 426), (Value.str (Str.ofString "Net.bring") 427), (Value.str (Str.ofString "/claim/cut.py") 428), (Value.int 127 0), (Value.int 2 0), (Value.int 0 0), (Value.int 0 0), (Value.int 3 0), (Value.ref 184), (Value.bool Bool.true), (Value.int 181 0), (Value.ref 185), Value.none, (Value.ref 186), (Value.ref 187), (Value.ref 188), (Value.int 433 0), (Value.int 127 0), (Value.str (Str.ofString "/claim/cut.py") 434)])) (List.toArray []))),
  (190, fobj (stIn PySem.Challenge.rw_uf060008_08.prog 14 4) (Str.ofString "bring") (Str.ofString "Net.bring") Value.none Value.none Value.none (Value.str (Str.ofString "stuckbell.net") 383) Option.none (Value.ref 189) Value.none),
  (196, (Obj.mk (Value.type "code") Option.none (Data.fields (List.toArray [(Value.str (Str.ofString "sent") 436), (Value.str (Str.ofString "Net.sent") 437), (Value.str (Str.ofString "/claim/cut.py") 438), (Value.int 135 0), (Value.int 1 0), (Value.int 0 0), (Value.int 0 0), (Value.int 3 0), (Value.ref 191), (Value.bool Bool.true), (Value.int 181 0), (Value.ref 192), Value.none, (Value.ref 193), (Value.ref 194), (Value.ref 195), (Value.int 440 0), (Value.int 135 0), (Value.str (Str.ofString "/claim/cut.py") 441)])) (List.toArray []))),
  (197, fobj (stIn PySem.Challenge.rw_uf060008_08.prog 14 5) (Str.ofString "sent") (Str.ofString "Net.sent") Value.none Value.none Value.none (Value.str (Str.ofString "stuckbell.net") 383) Option.none (Value.ref 196) Value.none),
  (203, (Obj.mk (Value.type "code") Option.none (Data.fields (List.toArray [(Value.str (Str.ofString "rung") 443), (Value.str (Str.ofString "Net.rung") 444), (Value.str (Str.ofString "/claim/cut.py") 445), (Value.int 138 0), (Value.int 1 0), (Value.int 0 0), (Value.int 0 0), (Value.int 3 0), (Value.ref 198), (Value.bool Bool.true), (Value.int 181 0), (Value.ref 199), Value.none, (Value.ref 200), (Value.ref 201), (Value.ref 202), (Value.int 448 0), (Value.int 138 0), (Value.str (Str.ofString "/claim/cut.py") 449)])) (List.toArray []))),
  (204, fobj (stIn PySem.Challenge.rw_uf060008_08.prog 14 6) (Str.ofString "rung") (Str.ofString "Net.rung") Value.none Value.none Value.none (Value.str (Str.ofString "stuckbell.net") 383) Option.none (Value.ref 203) Value.none),
  (208, (Obj.mk (Value.type "code") Option.none (Data.fields (List.toArray [(Value.str (Str.ofString "shown") 451), (Value.str (Str.ofString "Net.shown") 452), (Value.str (Str.ofString "/claim/cut.py") 453), (Value.int 144 0), (Value.int 1 0), (Value.int 0 0), (Value.int 0 0), (Value.int 3 0), (Value.ref 205), (Value.bool Bool.true), (Value.int 181 0), (Value.ref 206), Value.none, Value.none, Value.none, (Value.ref 207), (Value.int 454 0), (Value.int 144 0), (Value.str (Str.ofString "/claim/cut.py") 455)])) (List.toArray []))),
  (209, fobj (stIn PySem.Challenge.rw_uf060008_08.prog 14 7) (Str.ofString "shown") (Str.ofString "Net.shown") Value.none Value.none Value.none (Value.str (Str.ofString "stuckbell.net") 383) Option.none (Value.ref 208) Value.none),
  (215, (Obj.mk (Value.type "code") Option.none (Data.fields (List.toArray [(Value.str (Str.ofString "owed_by") 457), (Value.str (Str.ofString "Net.owed_by") 458), (Value.str (Str.ofString "/claim/cut.py") 459), (Value.int 147 0), (Value.int 2 0), (Value.int 0 0), (Value.int 0 0), (Value.int 3 0), (Value.ref 210), (Value.bool Bool.true), (Value.int 181 0), (Value.ref 211), Value.none, (Value.ref 212), (Value.ref 213), (Value.ref 214), (Value.int 462 0), (Value.int 147 0), (Value.str (Str.ofString "/claim/cut.py") 463)])) (List.toArray []))),
  (216, fobj (stIn PySem.Challenge.rw_uf060008_08.prog 14 8) (Str.ofString "owed_by") (Str.ofString "Net.owed_by") Value.none Value.none Value.none (Value.str (Str.ofString "stuckbell.net") 383) Option.none (Value.ref 215) Value.none),
  (222, (Obj.mk (Value.type "code") Option.none (Data.fields (List.toArray [(Value.str (Str.ofString "waker_of") 465), (Value.str (Str.ofString "Net.waker_of") 466), (Value.str (Str.ofString "/claim/cut.py") 467), (Value.int 150 0), (Value.int 2 0), (Value.int 0 0), (Value.int 0 0), (Value.int 3 0), (Value.ref 217), (Value.bool Bool.true), (Value.int 181 0), (Value.ref 218), Value.none, (Value.ref 219), (Value.ref 220), (Value.ref 221), (Value.int 470 0), (Value.int 150 0), (Value.str (Str.ofString "/claim/cut.py") 471)])) (List.toArray []))),
  (223, fobj (stIn PySem.Challenge.rw_uf060008_08.prog 14 9) (Str.ofString "waker_of") (Str.ofString "Net.waker_of") Value.none Value.none Value.none (Value.str (Str.ofString "stuckbell.net") 383) Option.none (Value.ref 222) Value.none),
  (229, (Obj.mk (Value.type "code") Option.none (Data.fields (List.toArray [(Value.str (Str.ofString "freed_yet") 473), (Value.str (Str.ofString "Net.freed_yet") 474), (Value.str (Str.ofString "/claim/cut.py") 475), (Value.int 153 0), (Value.int 2 0), (Value.int 0 0), (Value.int 0 0), (Value.int 3 0), (Value.ref 224), (Value.bool Bool.true), (Value.int 181 0), (Value.ref 225), Value.none, (Value.ref 226), (Value.ref 227), (Value.ref 228), (Value.int 478 0), (Value.int 153 0), (Value.str (Str.ofString "/claim/cut.py") 479)])) (List.toArray []))),
  (230, fobj (stIn PySem.Challenge.rw_uf060008_08.prog 14 10) (Str.ofString "freed_yet") (Str.ofString "Net.freed_yet") Value.none Value.none Value.none (Value.str (Str.ofString "stuckbell.net") 383) Option.none (Value.ref 229) Value.none),
  (232, (Obj.mk (Value.type "dict") Option.none (Data.dict (List.toArray [(DictEntry.mk (PyData.keyHash P (Str.ofString "__module__")) (Value.str (Str.ofString "__module__") 392) (Value.str (Str.ofString "stuckbell.net") 383)), (DictEntry.mk (PyData.keyHash P (Str.ofString "__firstlineno__")) (Value.str (Str.ofString "__firstlineno__") 396) (Value.int 103 395)), (DictEntry.mk (PyData.keyHash P (Str.ofString "__init__")) (Value.str (Str.ofString "__init__") 402) (Value.ref 162)), (DictEntry.mk (PyData.keyHash P (Str.ofString "put")) (Value.str (Str.ofString "put") 410) (Value.ref 169)), (DictEntry.mk (PyData.keyHash P (Str.ofString "hand")) (Value.str (Str.ofString "hand") 418) (Value.ref 176)), (DictEntry.mk (PyData.keyHash P (Str.ofString "letters")) (Value.str (Str.ofString "letters") 425) (Value.ref 183)), (DictEntry.mk (PyData.keyHash P (Str.ofString "bring")) (Value.str (Str.ofString "bring") 435) (Value.ref 190)), (DictEntry.mk (PyData.keyHash P (Str.ofString "sent")) (Value.str (Str.ofString "sent") 442) (Value.ref 197)), (DictEntry.mk (PyData.keyHash P (Str.ofString "rung")) (Value.str (Str.ofString "rung") 450) (Value.ref 204)), (DictEntry.mk (PyData.keyHash P (Str.ofString "shown")) (Value.str (Str.ofString "shown") 456) (Value.ref 209)), (DictEntry.mk (PyData.keyHash P (Str.ofString "owed_by")) (Value.str (Str.ofString "owed_by") 464) (Value.ref 216)), (DictEntry.mk (PyData.keyHash P (Str.ofString "waker_of")) (Value.str (Str.ofString "waker_of") 472) (Value.ref 223)), (DictEntry.mk (PyData.keyHash P (Str.ofString "freed_yet")) (Value.str (Str.ofString "freed_yet") 480) (Value.ref 230)), (DictEntry.mk (PyData.keyHash P (Str.ofString "__static_attributes__")) (Value.str (Str.ofString "__static_attributes__") 485) (Value.ref 231)), (DictEntry.mk (PyData.keyHash P (Str.ofString "__dict__")) (Value.str (Str.ofString "__dict__") 487) (Value.ref 234)), (DictEntry.mk (PyData.keyHash P (Str.ofString "__weakref__")) (Value.str (Str.ofString "__weakref__") 489) (Value.ref 235)), (DictEntry.mk (PyData.keyHash P (Str.ofString "__doc__")) (Value.str (Str.ofString "__doc__") 490) Value.none)]) 4) (List.toArray []))),
  (233, (Obj.mk (Value.type "type") Option.none (Data.cls (ClassData.mk (Str.ofString "Net") [(Value.type "object")] [(Value.ref 233), (Value.type "object")] 232 (Str.ofString "Net") Bool.true [] [] Bool.false Option.none Bool.false)) (List.toArray [Option.none, Option.none, (Option.some (Value.str (Str.ofString "Net") 385)), (Option.some (Value.str (Str.ofString "Net") 393)), (Option.some (Value.builtin "object.__new__")), (Option.some (Value.bool Bool.true))]))),
  (234, (Obj.mk (Value.type "getset_descriptor") Option.none (Data.fields (List.toArray [(Value.str (Str.ofString "__dict__") 486), (Value.ref 233), (Value.builtin "function.__dict__"), (Value.builtin "function.__dict__#set")])) (List.toArray []))),
  (235, (Obj.mk (Value.type "getset_descriptor") Option.none (Data.fields (List.toArray [(Value.str (Str.ofString "__weakref__") 488), (Value.ref 233), (Value.builtin "ExceptionGroup.__weakref__"), Value.none])) (List.toArray []))),
  (243, (Obj.mk (Value.type "code") Option.none (Data.fields (List.toArray [(Value.str (Str.ofString "_law_cell_at") 495), (Value.str (Str.ofString "_law_cell_at") 496), (Value.str (Str.ofString "/claim/cut.py") 497), (Value.int 156 0), (Value.int 2 0), (Value.int 0 0), (Value.int 0 0), (Value.int 3 0), (Value.ref 238), (Value.bool Bool.true), (Value.int 181 0), (Value.ref 239), Value.none, (Value.ref 240), (Value.ref 241), (Value.ref 242), (Value.int 500 0), (Value.int 156 0), (Value.str (Str.ofString "/claim/cut.py") 501)])) (List.toArray []))),
  (244, fobj (stAt PySem.Challenge.rw_uf060008_08.prog 16) (Str.ofString "_law_cell_at") (Str.ofString "_law_cell_at") Value.none Value.none Value.none (Value.str (Str.ofString "law_uf060008_08") 493) Option.none (Value.ref 243) Value.none),
  (250, (Obj.mk (Value.type "code") Option.none (Data.fields (List.toArray [(Value.str (Str.ofString "_law_mixed") 503), (Value.str (Str.ofString "_law_mixed") 504), (Value.str (Str.ofString "/claim/cut.py") 505), (Value.int 160 0), (Value.int 3 0), (Value.int 0 0), (Value.int 0 0), (Value.int 3 0), (Value.ref 245), (Value.bool Bool.true), (Value.int 181 0), (Value.ref 246), Value.none, (Value.ref 247), (Value.ref 248), (Value.ref 249), (Value.int 509 0), (Value.int 160 0), (Value.str (Str.ofString "/claim/cut.py") 510)])) (List.toArray []))),
  (251, fobj (stAt PySem.Challenge.rw_uf060008_08.prog 17) (Str.ofString "_law_mixed") (Str.ofString "_law_mixed") Value.none Value.none Value.none (Value.str (Str.ofString "law_uf060008_08") 493) Option.none (Value.ref 250) Value.none),
  (257, (Obj.mk (Value.type "code") Option.none (Data.fields (List.toArray [(Value.str (Str.ofString "_law_wait_by") 512), (Value.str (Str.ofString "_law_wait_by") 513), (Value.str (Str.ofString "/claim/cut.py") 514), (Value.int 162 0), (Value.int 3 0), (Value.int 0 0), (Value.int 0 0), (Value.int 3 0), (Value.ref 252), (Value.bool Bool.true), (Value.int 181 0), (Value.ref 253), Value.none, (Value.ref 254), (Value.ref 255), (Value.ref 256), (Value.int 521 0), (Value.int 162 0), (Value.str (Str.ofString "/claim/cut.py") 522)])) (List.toArray []))),
  (258, fobj (stAt PySem.Challenge.rw_uf060008_08.prog 18) (Str.ofString "_law_wait_by") (Str.ofString "_law_wait_by") Value.none Value.none Value.none (Value.str (Str.ofString "law_uf060008_08") 493) Option.none (Value.ref 257) Value.none),
  (262, (Obj.mk (Value.type "code") Option.none (Data.fields (List.toArray [(Value.str (Str.ofString "_law_waits") 524), (Value.str (Str.ofString "_law_waits") 525), (Value.str (Str.ofString "/claim/cut.py") 526), (Value.int 171 0), (Value.int 1 0), (Value.int 0 0), (Value.int 0 0), (Value.int 3 0), (Value.ref 259), (Value.bool Bool.true), (Value.int 181 0), (Value.ref 260), Value.none, Value.none, Value.none, (Value.ref 261), (Value.int 527 0), (Value.int 171 0), (Value.str (Str.ofString "/claim/cut.py") 528)])) (List.toArray []))),
  (263, fobj (stAt PySem.Challenge.rw_uf060008_08.prog 19) (Str.ofString "_law_waits") (Str.ofString "_law_waits") Value.none Value.none Value.none (Value.str (Str.ofString "law_uf060008_08") 493) Option.none (Value.ref 262) Value.none),
  (267, (Obj.mk (Value.type "code") Option.none (Data.fields (List.toArray [(Value.str (Str.ofString "_law_freed") 530), (Value.str (Str.ofString "_law_freed") 531), (Value.str (Str.ofString "/claim/cut.py") 532), (Value.int 183 0), (Value.int 1 0), (Value.int 0 0), (Value.int 0 0), (Value.int 3 0), (Value.ref 264), (Value.bool Bool.true), (Value.int 181 0), (Value.ref 265), Value.none, Value.none, Value.none, (Value.ref 266), (Value.int 533 0), (Value.int 183 0), (Value.str (Str.ofString "/claim/cut.py") 534)])) (List.toArray []))),
  (268, fobj (stAt PySem.Challenge.rw_uf060008_08.prog 20) (Str.ofString "_law_freed") (Str.ofString "_law_freed") Value.none Value.none Value.none (Value.str (Str.ofString "law_uf060008_08") 493) Option.none (Value.ref 267) Value.none),
  (274, (Obj.mk (Value.type "code") Option.none (Data.fields (List.toArray [(Value.str (Str.ofString "_law_asking") 536), (Value.str (Str.ofString "_law_asking") 537), (Value.str (Str.ofString "/claim/cut.py") 538), (Value.int 192 0), (Value.int 2 0), (Value.int 0 0), (Value.int 0 0), (Value.int 3 0), (Value.ref 269), (Value.bool Bool.true), (Value.int 181 0), (Value.ref 270), Value.none, (Value.ref 271), (Value.ref 272), (Value.ref 273), (Value.int 544 0), (Value.int 192 0), (Value.str (Str.ofString "/claim/cut.py") 545)])) (List.toArray []))),
  (275, fobj (stAt PySem.Challenge.rw_uf060008_08.prog 21) (Str.ofString "_law_asking") (Str.ofString "_law_asking") Value.none Value.none Value.none (Value.str (Str.ofString "law_uf060008_08") 493) Option.none (Value.ref 274) Value.none),
  (279, (Obj.mk (Value.type "code") Option.none (Data.fields (List.toArray [(Value.str (Str.ofString "_law_end") 547), (Value.str (Str.ofString "_law_end") 548), (Value.str (Str.ofString "/claim/cut.py") 549), (Value.int 201 0), (Value.int 3 0), (Value.int 0 0), (Value.int 0 0), (Value.int 3 0), (Value.ref 276), (Value.bool Bool.true), (Value.int 181 0), (Value.ref 277), Value.none, Value.none, Value.none, (Value.ref 278), (Value.int 550 0), (Value.int 201 0), (Value.str (Str.ofString "/claim/cut.py") 551)])) (List.toArray []))),
  (280, fobj (stAt PySem.Challenge.rw_uf060008_08.prog 22) (Str.ofString "_law_end") (Str.ofString "_law_end") Value.none Value.none Value.none (Value.str (Str.ofString "law_uf060008_08") 493) Option.none (Value.ref 279) Value.none),
  (284, (Obj.mk (Value.type "code") Option.none (Data.fields (List.toArray [(Value.str (Str.ofString "law") 553), (Value.str (Str.ofString "law") 554), (Value.str (Str.ofString "/claim/cut.py") 555), (Value.int 223 0), (Value.int 1 0), (Value.int 0 0), (Value.int 0 0), (Value.int 3 0), (Value.ref 281), (Value.bool Bool.true), (Value.int 181 0), (Value.ref 282), Value.none, Value.none, Value.none, (Value.ref 283), (Value.int 556 0), (Value.int 223 0), (Value.str (Str.ofString "/claim/cut.py") 557)])) (List.toArray []))),
  (285, fobj (stAt PySem.Challenge.rw_uf060008_08.prog 23) (Str.ofString "law") (Str.ofString "law") Value.none Value.none Value.none (Value.str (Str.ofString "law_uf060008_08") 493) Option.none (Value.ref 284) Value.none)]
def loose08 : List Str := [Str.ofString "_wall", Str.ofString "BellError", Str.ofString "BadWaits", Str.ofString "NoHand", Str.ofString "NoLetter", Str.ofString "Hand", Str.ofString "MOST_HANDS", Str.ofString "is_place", Str.ofString "is_wait", Str.ofString "need", Str.ofString "Net", Str.ofString "_law_cell_at", Str.ofString "_law_mixed", Str.ofString "_law_wait_by", Str.ofString "_law_waits", Str.ofString "_law_freed", Str.ofString "_law_asking", Str.ofString "_law_end"]

def q08 : Program := view PySem.Challenge.rw_uf060008_08.prog [23]
theorem said08 : PySem.Challenge.rw_uf060008_08.wellSaid = true := by kernel_rfl
theorem keys08 (P : Params) : [2, 3, 20, 21, 30, 31, 32, 47, 48, 50, 51, 62, 63, 74, 75, 90, 91, 95, 96, 102, 103, 109, 110, 116, 117, 121, 122, 124, 125, 126, 127, 135, 136, 142, 143, 149, 150, 161, 162, 168, 169, 175, 176, 182, 183, 189, 190, 196, 197, 203, 204, 208, 209, 215, 216, 222, 223, 229, 230, 232, 233, 234, 235, 243, 244, 250, 251, 257, 258, 262, 263, 267, 268, 274, 275, 279, 280, 284, 285] = (K08 P).map (·.1) := by kernel_rfl
noncomputable def hook08 : Hook := kHook K08 [2, 3, 20, 21, 30, 31, 32, 47, 48, 50, 51, 62, 63, 74, 75, 90, 91, 95, 96, 102, 103, 109, 110, 116, 117, 121, 122, 124, 125, 126, 127, 135, 136, 142, 143, 149, 150, 161, 162, 168, 169, 175, 176, 182, 183, 189, 190, 196, 197, 203, 204, 208, 209, 215, 216, 222, 223, 229, 230, 232, 233, 234, 235, 243, 244, 250, 251, 257, 258, 262, 263, 267, 268, 274, 275, 279, 280, 284, 285] keys08
theorem left08 : LeftO PySem.Challenge.rw_uf060008_08.row.prog q08 loose08 (fun s => recOk (RowW.records PySem.Challenge.rw_uf060008_08.row.toRowW) s) (Hook.obs hook08) (Hook.val hook08) 6000 := fun w => by kernel_rfl
theorem ok08 : (chainsOk q08 && opensWell PySem.Challenge.rw_uf060008_08.row.prog && (frees PySem.Challenge.rw_uf060008_08.row.toRowW && PySem.Challenge.rw_uf060008_08.row.within.isEmpty)) = true := by kernel_rfl
end Mine

set_option Elab.async false
set_option linter.unusedVariables false
namespace Mine
open PySem PySem.W PyProof.Rows

theorem ints_rel {h : Heap} {H : Hp} {vals : List Value} {ns : List Int} (hI : IntsAre vals ns) : VRelL h H (ns.map .int) vals := by
  induction hI with
  | nil => exact .nil
  | cons n t _ ih => exact .cons (.int n t) ih

theorem law_glue {prog : Program} {w : World} {s₁ : Shared} {a : Addr} {vals : List Value} {ns : List Int} {f : Value} {S : SpecT} {k : Nat} {c : ClaimW} {cl : Str → Option Addr} {mean : ExcName → Option Value} {args : List WData}
    (low : ∃ o, s₁.heap.get? cStatics = some o) (hg : s₁.gens = #[]) (hL : s₁.heap.IsList a vals.toArray) (hI : IntsAre vals ns)
    (hf : FnOK ⟨prog, w, s₁.heap, s₁.os, true, low⟩ k f S) (hk : k ≤ 20)
    (hS : S [.lst (ns.map .int)] (fun v _ => v = .bool true) (fun _ _ => False) (fun _ => Option.none))
    (hr : ∀ cls, c.raises args cls = false) (hp : c.post args (.bool true) args = true) :
    codeAny (model prog w) callerA (.call f ⟨[.ref a], []⟩) (GoodWG c cl mean args s₁) s₁ := by
  have lv : Lv ⟨prog, w, s₁.heap, s₁.os, true, low⟩ k callerA := by
    refine ⟨fun _ => rfl, ?_, ?_⟩
    · have : callerA.depth + 2 * 20 + 100 < recursionLimit := by decide +kernel
      omega
    · have : callerA.units + 40 * 20 + 100 < cLine := by decide +kernel
      omega
  have sim : Sim ⟨prog, w, s₁.heap, s₁.os, true, low⟩ (fun _ => Option.none) s₁ := ⟨fun _ _ e => e, hg, rfl, fun _ _ e => (nomatch e), fun _ e => absurd rfl e⟩
  refine codeAny_mono (hf callerA lv s₁ (fun _ => Option.none) [.lst (ns.map .int)] [.ref a] _ _ sim (.cons (.lst hL rfl (by simpa using ints_rel hI)) .nil) hS) ?_
  intro r s' p
  rcases r with e | (_ | _ | _ | v)
  · obtain ⟨_, _, q, _⟩ := p; exact q.elim
  · exact p.elim
  · exact p.elim
  · exact p.elim
  · obtain ⟨_, H', rfl, S', rv, E⟩ := p
    cases rv
    exact GoodW.toG ⟨.inl ⟨_, .bool true, [], rfl, hr, .bool true, hp, fun _ => ⟨List.nodup_nil, fun _ h => by cases h⟩⟩, S'.keep, S'.os, S'.gens⟩
end Mine

set_option Elab.async false
set_option maxRecDepth 100000
set_option linter.unusedVariables false
namespace Mine
open PySem PySem.W PyProof.Rows

local macro_rules
  | `(tactic| walk_at "v") => `(tactic| with_reducible first
    | (refine gE ?_; first
      | (refine gName ?_; first
        | refine EvalW.local_ (by with_unfolding_all rfl) ?_ (by with_unfolding_all rfl)
        | refine EvalW.cell (by with_unfolding_all rfl) ?_ (by with_unfolding_all rfl)
        | refine EvalW.free (by with_unfolding_all rfl) ?_ (by with_unfolding_all rfl)
        | refine EvalW.global (PCx.blt (by assumption) (by kernel_rfl) (by boot_fast)) ?_ (by with_unfolding_all rfl))
      | (refine gConst ?_; first
        | refine EvalW.int ?_
        | refine EvalW.none ?_
        | refine EvalW.bool ?_
        | refine EvalW.str ?_)
      | (refine gCall ?_; first
        | refine EvalW.callName (x := Str.ofString "is_place") (PCx.glob (v := .ref 136) (by assumption) (by kernel_rfl)) (Plainly.ofS (PCx.X (by assumption)) (by with_unfolding_all rfl)) (by with_unfolding_all rfl) ?_ (hp := by with_unfolding_all rfl)
        | refine EvalW.callName (x := Str.ofString "is_wait") (PCx.glob (v := .ref 143) (by assumption) (by kernel_rfl)) (Plainly.ofS (PCx.X (by assumption)) (by with_unfolding_all rfl)) (by with_unfolding_all rfl) ?_ (hp := by with_unfolding_all rfl)
        | refine EvalW.callName (x := Str.ofString "need") (PCx.glob (v := .ref 150) (by assumption) (by kernel_rfl)) (Plainly.ofS (PCx.X (by assumption)) (by with_unfolding_all rfl)) (by with_unfolding_all rfl) ?_ (hp := by with_unfolding_all rfl)
        | refine EvalW.callName (x := Str.ofString "_law_cell_at") (PCx.glob (v := .ref 244) (by assumption) (by kernel_rfl)) (Plainly.ofS (PCx.X (by assumption)) (by with_unfolding_all rfl)) (by with_unfolding_all rfl) ?_ (hp := by with_unfolding_all rfl)
        | refine EvalW.callName (x := Str.ofString "_law_mixed") (PCx.glob (v := .ref 251) (by assumption) (by kernel_rfl)) (Plainly.ofS (PCx.X (by assumption)) (by with_unfolding_all rfl)) (by with_unfolding_all rfl) ?_ (hp := by with_unfolding_all rfl)
        | refine EvalW.callName (x := Str.ofString "_law_wait_by") (PCx.glob (v := .ref 258) (by assumption) (by kernel_rfl)) (Plainly.ofS (PCx.X (by assumption)) (by with_unfolding_all rfl)) (by with_unfolding_all rfl) ?_ (hp := by with_unfolding_all rfl)
        | refine EvalW.callName (x := Str.ofString "_law_waits") (PCx.glob (v := .ref 263) (by assumption) (by kernel_rfl)) (Plainly.ofS (PCx.X (by assumption)) (by with_unfolding_all rfl)) (by with_unfolding_all rfl) ?_ (hp := by with_unfolding_all rfl)
        | refine EvalW.callName (x := Str.ofString "_law_freed") (PCx.glob (v := .ref 268) (by assumption) (by kernel_rfl)) (Plainly.ofS (PCx.X (by assumption)) (by with_unfolding_all rfl)) (by with_unfolding_all rfl) ?_ (hp := by with_unfolding_all rfl)
        | refine EvalW.callName (x := Str.ofString "_law_asking") (PCx.glob (v := .ref 275) (by assumption) (by kernel_rfl)) (Plainly.ofS (PCx.X (by assumption)) (by with_unfolding_all rfl)) (by with_unfolding_all rfl) ?_ (hp := by with_unfolding_all rfl)
        | refine EvalW.callName (x := Str.ofString "_law_end") (PCx.glob (v := .ref 280) (by assumption) (by kernel_rfl)) (Plainly.ofS (PCx.X (by assumption)) (by with_unfolding_all rfl)) (by with_unfolding_all rfl) ?_ (hp := by with_unfolding_all rfl)
        | refine EvalW.callName (x := Str.ofString "Hand") (PCx.glob (v := .ref 125) (by assumption) (by kernel_rfl)) (Plainly.cls (by assumption) (by kernel_rfl)) (by with_unfolding_all rfl) ?_ (hp := by with_unfolding_all rfl)
        | refine EvalW.callName (x := Str.ofString "Net") (PCx.glob (v := .ref 233) (by assumption) (by kernel_rfl)) (Plainly.cls (by assumption) (by kernel_rfl)) (by with_unfolding_all rfl) ?_ (hp := by with_unfolding_all rfl)
        | refine EvalW.callName (PCx.blt (by assumption) (by kernel_rfl) (by boot_fast)) (by first | exact Plainly.builtin _ | exact Plainly.type _) (by with_unfolding_all rfl) ?_ (hp := by with_unfolding_all rfl)
        | refine EvalW.method ?_ (by with_unfolding_all rfl) (by with_unfolding_all rfl))
      | refine EvalW.sub ?_
      | refine EvalW.attr ?_
      | refine EvalW.listMul ?_ (by with_unfolding_all rfl)
      | refine EvalW.binop ?_
      | refine EvalW.compare ?_
      | refine EvalW.compare2 ?_
      | refine EvalW.not ?_
      | refine EvalW.and ?_
      | refine EvalW.or ?_
      | refine EvalW.and_one ?_
      | refine EvalW.tuple ?_)
    | (refine gA ?_; first
      | refine ArgsW.cons ?_ (by with_unfolding_all rfl)
      | refine ArgsW.nil ?_)
    | (refine gB ?_; first
      | refine BinW.add ?_
      | refine BinW.mul (by first | exact IntMulOk.of_right (by decide) | exact IntMulOk.of_left (by decide)) ?_
      | refine BinW.mod (by first | decide | omega) ?_
      | refine BinW.floordiv (by first | decide | omega) (by first | decide | omega) ?_
      | refine BinW.sub ?_)
    | (refine gC ?_; first
      | refine CmpW.lt ?_
      | refine CmpW.le ?_
      | refine CmpW.gt ?_
      | refine CmpW.ge ?_
      | refine CmpW.eqI ?_
      | refine CmpW.neI ?_
      | refine CmpW.eqS ?_
      | refine CmpW.neS ?_)
    | (refine gAt ?_; refine HandRep.get (by assumption) (by assumption) (by assumption) (by with_unfolding_all decide) (by with_unfolding_all rfl) (by first | with_unfolding_all rfl | exact ov_plain _) ?_)
    | (refine gAt ?_; refine NetRep.get (by assumption) (by assumption) (by assumption) (by with_unfolding_all decide) (by with_unfolding_all rfl) (by with_unfolding_all rfl) ?_)
    | refine TruthW.bool ?_
    | (refine gT ?_; first
      | refine TestW.compare ?_
      | refine TestW.compare2 ?_
      | refine TestW.not ?_
      | refine TestW.and ?_
      | refine TestW.or ?_
      | refine TestW.and_nil ?_
      | refine TestW.or_nil ?_
      | refine TestW.plain ?_ (by intro; with_unfolding_all rfl))
    | (refine gX ?_; first
      | refine ExecsW.cons ?_
      | refine ExecsW.nil ?_)
    | refine Cont.next ?_
    | refine Cont.ret ?_
    | (refine gS ?_; first
      | refine ExecW.if_ ?_
      | refine ExecW.ret ?_
      | refine ExecW.assign (Storable.l (by with_unfolding_all rfl)) ?_ (by with_unfolding_all rfl)
      | refine ExecW.assign (Storable.c (by with_unfolding_all rfl) (by with_unfolding_all rfl)) ?_ (by with_unfolding_all rfl)
      | refine ExecW.assign_sub ?_ (by with_unfolding_all rfl)
      | refine ExecW.assign_attr ?_ (by with_unfolding_all rfl)
      | refine ExecW.expr ?_ (by with_unfolding_all rfl) (by with_unfolding_all rfl)))
  | `(tactic| walk_at "w") => `(tactic| repeat walk_at "v")
noncomputable abbrev K8x (C : Cx) : Frag := K08 C.w.params
variable {C : Cx}

def S_mixed : SpecT := S_mixG 48271 7727 999983
set_option maxHeartbeats 4000000 in
theorem cell_ok (P : PCx C (K8x C)) (k : Nat) : FnOK C (k + 1) (.ref 244) S_cell := by
  refine FnOK.ofS (K := K8x C) [Str.ofString "_law_script", Str.ofString "_law_k"] P.X P.lim rfl rfl (by kernel_rfl) ?_ (by kernel_rfl) (by kernel_rfl) ?_
  · intro vals h
    rcases vals with _ | ⟨a, _ | ⟨b, _ | ⟨c, t⟩⟩⟩ <;> simp at h
    rfl
  · rintro args Q R H ⟨ns, i, rfl, hi, hn, hQ⟩
    refine ⟨rfl, fun L => ?_⟩
    walk_at "w"
    refine CallW.len rfl (by simp; omega) ?_
    walk_at "w"
    refine ite_w (fun h => ?_) fun h => ?_
    · simp at h
      walk_at "w"
      refine SubW.list (l := ns.map .int) rfl hi (by omega) (u := .int (cellV ns i)) ?_ ?_
      · have : i.toNat < ns.length := by omega
        simp [cellV, this]
      · exact ⟨_, _, Fz.refl, hQ⟩
    · simp at h
      walk_at "w"
      refine ⟨_, _, Fz.refl, ?_⟩
      have : cellV ns i = 0 := by simp [cellV]; rw [List.getElem?_eq_none (by omega)]; rfl
      rw [this] at hQ; exact hQ

set_option maxHeartbeats 4000000 in
theorem mixed_ok (P : PCx C (K8x C)) (k : Nat) : FnOK C (k + 2) (.ref 251) S_mixed := by
  refine FnOK.ofS (K := K8x C) [Str.ofString "_law_script", Str.ofString "_law_k", Str.ofString "_law_salt"] P.X P.lim rfl rfl (by kernel_rfl) ?_ (by kernel_rfl) (by kernel_rfl) ?_
  · intro vals h
    rcases vals with _ | ⟨a, _ | ⟨b, _ | ⟨c, _ | ⟨d, t⟩⟩⟩⟩ <;> simp at h
    rfl
  · rintro args Q R H ⟨ns, i, j, rfl, hi, hn, hQ⟩
    refine ⟨rfl, fun L => ?_⟩
    walk_at "w"
    refine (cell_ok P k).call ⟨ns, i, rfl, hi, hn, ?_⟩
    walk_at "w"
    exact ⟨_, _, Fz.refl, hQ⟩

set_option maxHeartbeats 4000000 in
theorem is_place_ok (P : PCx C (K8x C)) (k : Nat) : FnOK C (k + 1) (.ref 136) S_is_place := by
  refine FnOK.ofS (K := K8x C) [Str.ofString "thing", Str.ofString "many"] P.X P.lim rfl rfl (by kernel_rfl) ?_ (by kernel_rfl) (by kernel_rfl) ?_
  · intro vals h
    rcases vals with _ | ⟨a, _ | ⟨b, _ | ⟨c, t⟩⟩⟩ <;> simp at h
    rfl
  · rintro args Q R H ⟨i, m, rfl, hQ⟩
    refine ⟨rfl, fun L => ?_⟩
    walk_at "w"
    refine CallW.isi_int rfl ?_
    walk_at "w"
    refine ite_t rfl ?_
    walk_at "w"
    refine CallW.isi_bool rfl ?_
    walk_at "w"
    refine ite_t rfl ?_
    walk_at "w"
    refine ite_w (fun h => ?_) fun h => ?_
    · walk_at "w"
      refine RetQ.here ?_
      rw [h] at hQ; exact hQ
    · walk_at "w"
      refine RetQ.here ?_
      rw [h] at hQ ⊢; exact hQ

set_option maxHeartbeats 4000000 in
theorem is_wait_ok (P : PCx C (K8x C)) (k : Nat) : FnOK C (k + 2) (.ref 143) S_is_wait := by
  refine FnOK.ofS (K := K8x C) [Str.ofString "thing", Str.ofString "many"] P.X P.lim rfl rfl (by kernel_rfl) ?_ (by kernel_rfl) (by kernel_rfl) ?_
  · intro vals h
    rcases vals with _ | ⟨a, _ | ⟨b, _ | ⟨c, t⟩⟩⟩ <;> simp at h
    rfl
  · rintro args Q R H ⟨w, m, rfl, hw, hQ⟩
    refine ⟨rfl, fun L => ?_⟩
    cases w with
    | none =>
      walk_at "w"
      refine CmpW.isNone trivial ?_
      walk_at "w"
      refine ite_t rfl ?_
      walk_at "w"
      exact RetQ.here hQ
    | some w =>
      obtain ⟨b, l⟩ := w
      obtain ⟨hw1, hw2, hw3, hw4⟩ := hw
      simp only [wv]
      walk_at "w"
      refine CmpW.isNone trivial ?_
      walk_at "w"
      refine ite_f rfl ?_
      walk_at "w"
      refine CallW.isi_tuple rfl ?_
      walk_at "w"
      refine ite_f rfl ?_
      walk_at "w"
      refine CallW.lenT (by simp) ?_
      walk_at "w"
      refine ite_f rfl ?_
      walk_at "w"
      refine SubW.tup (by omega) (by omega) rfl ?_
      walk_at "w"
      refine CallW.isi_str rfl ?_
      walk_at "w"
      refine ite_f rfl ?_
      walk_at "w"
      refine ite_f rfl ?_
      walk_at "w"
      refine SubW.tup (by omega) (by omega) rfl ?_
      walk_at "w"
      cases b
      case' false =>
        refine ite_t rfl ?_
        walk_at "w"
        refine SubW.tup (by omega) (by omega) rfl ?_
        walk_at "w"
        refine ite_f rfl ?_
      case' true =>
        refine ite_f rfl ?_
      all_goals
        walk_at "w"
        refine ite_f rfl ?_
        walk_at "w"
        refine SubW.tup (by omega) (by omega) rfl ?_
        walk_at "w"
        refine CallW.isi_list rfl ?_
        walk_at "w"
        refine ite_f rfl ?_
        walk_at "w"
        refine SubW.tup (by omega) (by omega) rfl ?_
        refine EvalW.list_fz ?_
        walk_at "w"
        refine ⟨by simp, ?_⟩
        refine CmpW.eqN rfl lview_nv0 ?_
        walk_at "w"
        refine ite_f (by simpa using hw1) ?_
        walk_at "w"
        refine ite_f rfl ?_
        walk_at "w"
        refine EvalW.dictI fun a ha => ?_
        walk_at "w"
        refine ExecW.for_in false P.hd (fun e => by cases e) ?_
        refine IterE.list ?_
        walk_at "w"
        refine SubW.tup (by omega) (by omega) rfl ?_
        refine ⟨_, rfl, fun r l' H' => ∃ (i : Nat) (d : Int → Option V) (n : Nat), r = (l.map nv).drop i ∧ i ≤ l.length ∧ n ≤ i ∧ l' = [(Str.ofString "many", V.int m), (Str.ofString "met", V.ref a)] ∧ H' a = some (.dictI d n) ∧ (∀ x : Nat, x ∉ l.take i → d x = none) ∧ Hp.le H H', ?_, ?_, ?_, ?_⟩
        · exact ⟨_, ⟨0, _, 0, rfl, Nat.zero_le _, Nat.le_refl _, rfl, Hp.set_self .., fun _ _ => rfl, Hp.le_set ha⟩, rfl, rfl, trivial⟩
        · rintro r l' H' ⟨i, d, n, _⟩; rfl
        · rintro v r l' H' ⟨i, d, n, e, hi, hni, rfl, h1, h2, h3⟩
          obtain ⟨hv, hr, hlt⟩ := drop_cons e
          rw [List.length_map] at hlt
          rw [List.getElem?_map, List.getElem?_eq_getElem hlt] at hv
          cases hv
          have hx : l[i] < m := hw3 _ (List.getElem_mem hlt)
          generalize hxe : l[i] = x at hx
          have hnx : x ∉ l.take i := by
            intro hm
            obtain ⟨j, hj, e⟩ := List.mem_take_iff_getElem.mp hm
            have := (List.nodup_iff_pairwise_ne.mp hw2)
            rw [List.pairwise_iff_getElem] at this
            exact this j i (by omega) hlt (by omega) (by rw [e, hxe])
          refine AssignW.name (Or.inl rfl) ?_
          simp only [nv]
          walk_at "w"
          refine (is_place_ok P k).call ⟨_, _, rfl, ?_⟩
          walk_at "w"
          refine ite_f (by simp; omega) ?_
          walk_at "w"
          refine CmpW.inI h1 ?_
          walk_at "w"
          refine ite_f (by rw [h2 x hnx]; rfl) ?_
          walk_at "w"
          refine ite_f rfl ?_
          walk_at "w"
          refine SetW.dictI h1 (by omega) ?_
          walk_at "w"
          refine ⟨_, ⟨i + 1, _, n + 1, hr, hlt, by omega, rfl, Hp.set_self .., fun y hy => ?_, Hp.le_set' h3 ha⟩, rfl, rfl, trivial⟩
          rw [List.take_add_one, List.getElem?_eq_getElem hlt] at hy
          have hy1 : y ∉ l.take i := fun h => hy (List.mem_append.mpr (.inl h))
          have : y ≠ x := fun q => hy (List.mem_append.mpr (.inr (by rw [q, hxe]; exact List.mem_singleton.mpr rfl)))
          have : ¬ (y : Int) = (x : Int) := by omega
          simp only [this, if_false]
          exact h2 y hy1
        · rintro l' H' ⟨i, d, n, e, hi, hni, rfl, h1, h2, h3⟩
          walk_at "w"
          exact RetQ.fz (Fz.drop h3) hQ

set_option maxHeartbeats 4000000 in
theorem need_ok (P : PCx C (K8x C)) (k : Nat) : FnOK C (k + 3) (.ref 150) S_need := by
  refine FnOK.ofS (K := K8x C) [Str.ofString "waits"] P.X P.lim rfl rfl (by kernel_rfl) ?_ (by kernel_rfl) (by kernel_rfl) ?_
  · intro vals h
    rcases vals with _ | ⟨a, _ | ⟨b, t⟩⟩ <;> simp at h
    rfl
  · rintro args Q R H ⟨W, rfl, ⟨hW1, hW2, hW3⟩, hQ⟩
    refine ⟨rfl, fun L => ?_⟩
    walk_at "w"
    refine CallW.isi_list rfl ?_
    walk_at "w"
    refine ite_f rfl ?_
    walk_at "w"
    refine CallW.len rfl (by simp; omega) ?_
    walk_at "w"
    refine ite_t (by simp; omega) ?_
    walk_at "w"
    refine EvalW.global (P.globInt (i := 40) (t := 354) (by kernel_rfl)) ?_ rfl
    walk_at "w"
    refine ite_f (by simp; omega) ?_
    walk_at "w"
    refine ite_f rfl ?_
    walk_at "w"
    refine ExecW.for_all true P.hd (fun _ => ⟨_, _, _, rfl⟩) [(Str.ofString "waits", V.lst (W.map wv))] ⟨rfl, trivial⟩ ?_
    refine IterE.enum (P.blt (by kernel_rfl) (by boot_fast)) rfl ?_
    walk_at "w"
    refine ⟨_, rfl, fun _ => True, rfl, ?_, ?_⟩
    · intro i v hv _
      rw [enumV, enumFrom_get, List.getElem?_map] at hv
      cases hw : W[i]? with
      | none => rw [hw] at hv; cases hv
      | some w =>
        rw [hw] at hv; cases hv
        have hmem : w ∈ W := List.mem_of_getElem? hw
        refine AssignW.tuple (.cons (Or.inl rfl) (.cons (Or.inl rfl) .nil)) rfl P.hd ?_
        walk_at "w"
        refine CallW.len rfl (by simp; omega) ?_
        walk_at "w"
        refine (is_wait_ok P k).call ⟨w, W.length, by simp, hW3 w hmem, ?_⟩
        walk_at "w"
        refine ite_f rfl ?_
        walk_at "w"
        exact ⟨trivial, rfl, rfl, trivial⟩
    · intro _
      walk_at "w"
      exact RetQ.here hQ

def waitByL (n s f : Int) : Wt := if n % (if f = 0 then 5 else (if f = 1 then 11 else 999983)) = 0 then none else some (n / 3 % 2 == 0, othersG 55 700 89 n s (n / 11 % 3).toNat)
def S_wait_by : SpecT := fun args Q R H => ∃ (n f : Int) (s : Nat), args = [.int n, .int s, .int f] ∧ 0 ≤ n ∧ 0 < s ∧ s ≤ 40 ∧ (f = 0 ∨ f = 1 ∨ f = 2) ∧ Q (wv (waitByL n s f)) H
theorem waitByL_ok (n f : Int) (s : Nat) (hs : 0 < s) : WOk s (waitByL n s f) := by
  unfold waitByL
  generalize ((if f = 0 then 5 else (if f = 1 then 11 else 999983)) : Int) = m
  by_cases hm : n % m = 0
  · rw [if_pos hm]; trivial
  · rw [if_neg hm]; exact waitG_ok _ _ _ _ _ _ _ hs (by omega)

set_option maxHeartbeats 4000000 in
theorem wait_by_ok (P : PCx C (K8x C)) (k : Nat) : FnOK C (k + 1) (.ref 258) S_wait_by := by
  refine FnOK.ofS (K := K8x C) [Str.ofString "_law_number", Str.ofString "_law_size", Str.ofString "_law_few"] P.X P.lim rfl rfl (by kernel_rfl) ?_ (by kernel_rfl) (by kernel_rfl) ?_
  · intro vals h
    rcases vals with _ | ⟨a, _ | ⟨b, _ | ⟨c, _ | ⟨d, t⟩⟩⟩⟩ <;> simp at h
    rfl
  · rintro args Q R H ⟨n, f, s, rfl, hn, hs, hs', hf, hQ⟩
    refine ⟨rfl, fun L => ?_⟩
    walk_at "w"
    refine EvalW.list_fz ?_
    walk_at "w"
    refine ⟨by simp, ?_⟩
    walk_at "w"
    refine SubW.list rfl (by omega) (by omega) (u := .int (if f = 0 then 5 else (if f = 1 then 11 else 999983))) (by rcases hf with rfl | rfl | rfl <;> rfl) ?_
    refine BinW.mod (by rcases hf with rfl | rfl | rfl <;> decide) ?_
    walk_at "w"
    refine ite_w (fun h => ?_) fun h => ?_
    · have h : n % (if f = 0 then 5 else (if f = 1 then 11 else 999983)) = 0 := by simpa using h
      walk_at "w"
      refine RetQ.here ?_
      unfold waitByL at hQ
      rw [if_pos h] at hQ; exact hQ
    · have h : ¬ n % (if f = 0 then 5 else (if f = 1 then 11 else 999983)) = 0 := by simpa using h
      unfold waitByL at hQ
      rw [if_neg h] at hQ
      walk_at "w"
      refine EvalW.list ?_
      walk_at "w"
      refine ⟨by simp, fun a ha => ?_⟩
      walk_at "w"
      refine ExecW.for_in false P.hd (fun e => by cases e) ?_
      refine IterE.range (P.blt (by kernel_rfl) (by boot_fast)) rfl ?_
      walk_at "w"
      refine ⟨_, rfl, by omega, by omega, ?_⟩
      refine ⟨fun r l H' => ∃ i : Nat, r = (rangeV (n / 11 % 3).toNat).drop i ∧ i ≤ (n / 11 % 3).toNat ∧ l = [(Str.ofString "_law_number", V.int n), (Str.ofString "_law_size", V.int s), (Str.ofString "_law_others", V.ref a)] ∧ H' a = some (.list ((othersG 55 700 89 n s i).map nv)) ∧ Hp.le H H', ?_, ?_, ?_, ?_⟩
      · refine ⟨_, ⟨0, rfl, Nat.zero_le _, rfl, ?_, Hp.le_set ha⟩, rfl, rfl, rfl, trivial⟩
        rw [Hp.set_self]
        have : ((n / 55 % (s : Int)).toNat : Int) = n / 55 % s := Int.toNat_of_nonneg (Int.emod_nonneg _ (by omega))
        simp [othersG, nv, this]
      · intros; trivial
      · rintro v r l H' ⟨i, e, hi, rfl, h1, h2⟩
        obtain ⟨hv, hr, hlt⟩ := drop_cons e
        rw [ints_length] at hlt
        rw [ints_get hlt] at hv
        cases hv
        refine AssignW.name (Or.inl rfl) ?_
        walk_at "w"
        refine SubW.list (lview_ref h1) (by omega) (by omega) (u := nv (n / 55 % s).toNat) ?_ ?_
        · obtain ⟨t, e⟩ := othersG_head 55 700 89 n s i
          rw [e]; rfl
        have e1 : ((n / 55 % (s : Int)).toNat : Int) = n / 55 % s := Int.toNat_of_nonneg (Int.emod_nonneg _ (by omega))
        rw [nv, e1]
        walk_at "w"
        have e2 : (n / 55 % (s : Int) + 1 + n / (700 + 89 * (i : Int)) % s) % s = (moreG 700 89 n s (n / 55 % s) i : Nat) := (Int.toNat_of_nonneg (Int.emod_nonneg _ (by omega))).symm
        rw [e2]
        generalize hm : moreG 700 89 n s (n / 55 % s) i = m
        walk_at "w"
        refine CmpW.notInN (lview_ref h1) (by omega) ?_
        walk_at "w"
        have e3 : othersG 55 700 89 n s (i + 1) = if m ∈ othersG 55 700 89 n s i then othersG 55 700 89 n s i else othersG 55 700 89 n s i ++ [m] := by rw [← hm]; rfl
        refine ite_w (fun h => ?_) fun h => ?_
        · have h : ¬ m ∈ othersG 55 700 89 n s i := by simpa using h
          rw [if_neg h] at e3
          walk_at "w"
          refine ⟨_, MethIs.append h1, Plainly.builtin _, ?_⟩
          walk_at "w"
          refine CallW.append h1 (by have := othersG_len 55 700 89 n s i; simp; omega) ?_
          walk_at "w"
          refine ⟨_, ⟨i + 1, hr, hlt, rfl, ?_, Hp.le_set' h2 ha⟩, rfl, rfl, rfl, trivial⟩
          rw [Hp.set_self, e3]; simp [nv]
        · have h : m ∈ othersG 55 700 89 n s i := by simpa using h
          rw [if_pos h] at e3
          walk_at "w"
          refine ⟨_, ⟨i + 1, hr, hlt, rfl, ?_, h2⟩, rfl, rfl, rfl, trivial⟩
          rw [e3]; exact h1
      · rintro l H' ⟨i, e, hi, rfl, h1, h2⟩
        have hle := drop_nil e
        rw [ints_length] at hle
        have hi : i = (n / 11 % 3).toNat := by omega
        subst hi
        walk_at "w"
        refine EvalW.list_fz ?_
        walk_at "w"
        refine ⟨by simp, ?_⟩
        walk_at "w"
        refine SubW.list rfl (by omega) (by omega) (u := .str (Str.ofString (if (n / 3 % 2 == 0) = true then "all" else "any"))) ?_ ?_
        · have : n / 3 % 2 = 0 ∨ n / 3 % 2 = 1 := by omega
          rcases this with e | e <;> rw [e] <;> rfl
        walk_at "w"
        refine ⟨?_, by simp⟩
        walk_at "w"
        refine RetQ.fz (Fz.of (D := fun b => b = a) (.tup (.cons (.refl _) (.cons (.thaw rfl h1 (fz_new.FzRL_refl _)) .nil))) h2 (by rintro b rfl; exact ha)) hQ

variable {C : Cx}
theorem handC (C : Cx) : HandCls (K8x C) 125 := ⟨⟨by kernel_rfl, by kernel_rfl, by kernel_rfl, by kernel_rfl, by kernel_rfl⟩, by kernel_rfl⟩

set_option maxHeartbeats 4000000 in
theorem send_ok (P : PCx C (K8x C)) (k : Nat) : FnOK C (k + 1) (.ref 96) (S_send 125) := by
  have hc := handC C
  refine FnOK.ofS (K := K8x C) [Str.ofString "self", Str.ofString "word", Str.ofString "hands"] P.X P.lim rfl rfl (by kernel_rfl) ?_ (by kernel_rfl) (by kernel_rfl) ?_
  · intro vals h
    rcases vals with _ | ⟨a, _ | ⟨b, _ | ⟨c, _ | ⟨d, t⟩⟩⟩⟩ <;> simp at h
    rfl
  · rintro args Q R H ⟨A, m, w, l, hv, rfl, Rp, hl, hn, hQ⟩
    refine ⟨rfl, fun L => ?_⟩
    walk_at "w"
    refine CallW.len hl (by simp; omega) ?_
    walk_at "w"
    refine Rp.putOwed P hc _ fun H1 Rp1 e1 => ?_
    have hl1 : lview H1 hv = some (l.map nv) := lview_keep hl e1 (fun l q => by rw [Rp.d] at q; cases q)
    have hn1 : ∀ x, H1 x = none → H x = none := fun x hx => by rw [← e1 x (Hp.ne Rp1.d hx).symm]; exact hx
    have f1 : HFrame H H1 A := (HFrame.refl H A).but e1 (.inl rfl)
    walk_at "w"
    refine EvalW.compO (gN fun n => some (lv (w, m.num, n))) rfl P.hd rfl ?_
    refine IterE.list ?_
    walk_at "w"
    refine ⟨_, hl1, by simp; omega, fun _ hle => lcond_le hl1 hle, ?_, fun x hx => ?_⟩
    · intro v hv H' hle
      obtain ⟨y, hy, rfl⟩ := List.mem_map.mp hv
      have Rp2 := Rp1.le hle
      refine PureStep.map rfl fun L' => ?_
      simp only [nv]
      walk_at "w"
      exact ⟨⟨rfl, by rw [gN_nv]; rfl⟩, by simp⟩
    rw [fm_gN, fm_map]
    walk_at "w"
    refine RetQ.here (hQ _ x ?_ ?_ (hn1 x hx) (f1.set (hn1 x hx)))
    · have := Rp1.fresh (o := .list (l.map fun n => lv (w, m.num, n))) hx
      simpa [sendM] using this
    · rw [Hp.set_self]; simp [sendM, Function.comp_def]

set_option maxHeartbeats 4000000 in
theorem begin_ok (P : PCx C (K8x C)) (k : Nat) : FnOK C (k + 2) (.ref 103) (S_begin 125) := by
  have hc := handC C
  refine FnOK.ofS (K := K8x C) [Str.ofString "self"] P.X P.lim rfl rfl (by kernel_rfl) ?_ (by kernel_rfl) (by kernel_rfl) ?_
  · intro vals h
    rcases vals with _ | ⟨a, _ | ⟨b, t⟩⟩ <;> simp at h
    rfl
  · rintro args Q R H ⟨A, m, rfl, Rp, hn, hQ⟩
    refine ⟨rfl, fun L => ?_⟩
    walk_at "w"
    refine ite_w (fun h => ?_) fun h => ?_
    · walk_at "w"
      refine EvalW.list ?_
      walk_at "w"
      refine ⟨by simp, fun x hx => ?_⟩
      walk_at "w"
      refine RetQ.here (hQ _ x ?_ ?_ hx ((HFrame.refl H A).set hx))
      · have := Rp.fresh (o := .list []) hx
        simpa [beginM, h] using this
      · rw [Hp.set_self]; simp [beginM, h]
    · walk_at "w"
      refine Rp.putHas P hc true fun H1 Rp1 e1 => ?_
      have hn1 : ∀ x, H1 x = none → H x = none := fun x hx => by rw [← e1 x (Hp.ne Rp1.d hx).symm]; exact hx
      have f1 : HFrame H H1 A := (HFrame.refl H A).but e1 (.inl rfl)
      walk_at "w"
      refine ⟨_, Rp1.meth P hc (f := 96) (by with_unfolding_all rfl) (by kernel_rfl) (by kernel_rfl), Plainly.ofS P.X rfl, ?_⟩
      walk_at "w"
      refine (send_ok P _).call ⟨A, _, .ask, m.others, _, rfl, Rp1, rfl, hn, ?_⟩
      intro H' x r2 e2 n2 f2
      walk_at "w"
      refine RetQ.here (hQ _ x ?_ ?_ (hn1 x n2) (f1.trans f2))
      · simpa [beginM, h, HandM.others] using r2
      · simpa [beginM, h, HandM.others] using e2

set_option maxHeartbeats 4000000 in
theorem asked_ok (P : PCx C (K8x C)) (k : Nat) : FnOK C (k + 3) (.ref 117) (S_asked 125) := by
  have hc := handC C
  refine FnOK.ofS (K := K8x C) [Str.ofString "self", Str.ofString "sender"] P.X P.lim rfl rfl (by kernel_rfl) ?_ (by kernel_rfl) (by kernel_rfl) ?_
  · intro vals h
    rcases vals with _ | ⟨a, _ | ⟨b, _ | ⟨c, t⟩⟩⟩ <;> simp at h
    rfl
  · rintro args Q R H ⟨A, m, s, rfl, Rp, ⟨ho1, ho2, ho3⟩, hQ⟩
    refine ⟨rfl, fun L => ?_⟩
    simp only [nv]
    walk_at "w"
    refine ite_w (fun h => ?_) fun h => ?_
    · walk_at "w"
      refine ⟨_, Rp.meth P hc (f := 96) (by with_unfolding_all rfl) (by kernel_rfl) (by kernel_rfl), Plainly.ofS P.X rfl, ?_⟩
      walk_at "w"
      refine EvalW.list_fz ?_
      walk_at "w"
      refine ⟨by simp, ?_⟩
      walk_at "w"
      refine (send_ok P _).call ⟨A, _, .freed, [s], _, rfl, Rp, rfl, by simp, ?_⟩
      intro H' x r2 e2 n2 f2
      walk_at "w"
      refine RetQ.here (hQ _ x ?_ ?_ n2 f2)
      · simpa [askedM, h] using r2
      · simpa [askedM, h] using e2
    · walk_at "w"
      refine ⟨_, MethIs.append Rp.a, Plainly.builtin _, ?_⟩
      walk_at "w"
      refine CallW.append Rp.a (by simp; omega) ?_
      have Rp1 := Rp.setAskers s
      have f1 : HFrame H (H.set A.a (.list (m.askers.map nv ++ [V.int ((s : Nat) : Int)]))) A := (HFrame.refl H A).but (fun b hb => Hp.set_ne hb) (.inr (.inl rfl))
      generalize H.set A.a (.list (m.askers.map nv ++ [V.int ((s : Nat) : Int)])) = H1 at Rp1 f1
      have hn1 : ∀ x, H1 x = none → H x = none := fun x hx => f1.none Rp Rp1 hx
      walk_at "w"
      refine ite_w (fun h2 => ?_) fun h2 => ?_
      · walk_at "w"
        refine EvalW.list ?_
        walk_at "w"
        refine ⟨by simp, fun x hx => ?_⟩
        walk_at "w"
        have e9 : askedM m s = ({ m with askers := m.askers ++ [s] }, []) := by unfold askedM; rw [if_neg (by rw [h]; decide), if_pos h2]
        refine RetQ.here (hQ _ x ?_ ?_ (hn1 x hx) (f1.set (hn1 x hx)))
        · rw [e9]; exact Rp1.fresh (o := .list []) hx
        · rw [e9, Hp.set_self]; rfl
      · walk_at "w"
        refine ⟨_, Rp1.meth P hc (f := 103) (by with_unfolding_all rfl) (by kernel_rfl) (by kernel_rfl), Plainly.ofS P.X rfl, ?_⟩
        walk_at "w"
        refine (begin_ok P _).call ⟨A, _, rfl, Rp1, ho3, ?_⟩
        intro H' x r2 e2 n2 f2
        walk_at "w"
        have h2' : m.has = false := h2
        have e9 : askedM m s = beginM { m with askers := m.askers ++ [s] } := by unfold askedM; rw [if_neg (by rw [h]; decide), if_neg (by rw [h2']; decide)]
        refine RetQ.here (hQ _ x ?_ ?_ (hn1 x n2) (f1.trans f2))
        · rw [e9]; exact r2
        · rw [e9]; exact e2

set_option maxHeartbeats 4000000 in
theorem told_ok (P : PCx C (K8x C)) (k : Nat) : FnOK C (k + 2) (.ref 122) (S_told 125) := by
  have hc := handC C
  refine FnOK.ofS (K := K8x C) [Str.ofString "self", Str.ofString "sender"] P.X P.lim rfl rfl (by kernel_rfl) ?_ (by kernel_rfl) (by kernel_rfl) ?_
  · intro vals h
    rcases vals with _ | ⟨a, _ | ⟨b, _ | ⟨c, t⟩⟩⟩ <;> simp at h
    rfl
  · rintro args Q R H ⟨A, m, s, rfl, Rp, ⟨ho1, ho2, ho3⟩, hQ⟩
    refine ⟨rfl, fun L => ?_⟩
    simp only [nv]
    walk_at "w"
    refine SetW.dictI Rp.h (by omega) ?_
    have Rp1 := Rp.setHeard s m.heard.length rfl
    have f1 : HFrame H (H.set A.h (.dictI (fun x => if x = ((s : Nat) : Int) then some (V.bool true) else heardM m.heard x) (m.heard.length + 1))) A := (HFrame.refl H A).but (fun b hb => Hp.set_ne hb) (.inr (.inr rfl))
    generalize H.set A.h (.dictI (fun x => if x = ((s : Nat) : Int) then some (V.bool true) else heardM m.heard x) (m.heard.length + 1)) = H1 at Rp1 f1
    have hn1 : ∀ x, H1 x = none → H x = none := fun x hx => f1.none Rp Rp1 hx
    walk_at "w"
    refine ite_w (fun h => ?_) fun h => ?_
    · walk_at "w"
      refine EvalW.list ?_
      walk_at "w"
      refine ⟨by simp, fun x hx => ?_⟩
      walk_at "w"
      refine RetQ.here (hQ _ x ?_ ?_ (hn1 x hx) (f1.set (hn1 x hx)))
      · have := Rp1.fresh (o := .list []) hx
        have h' : m.freed = true := h
        simpa [toldM, h'] using this
      · have h' : m.freed = true := h
        rw [Hp.set_self]; simp [toldM, h']
    · have h' : m.freed = false := h
      refine ExecsW.nil (Cont.next (ExecsW.seq (fun l H' => H' = H1 ∧ (m.isAll && !(m.others.all fun o => decide (o ∈ s :: m.heard))) = false ∧ l = [(Str.ofString "self", V.ref A.i), (Str.ofString "sender", V.int ((s : Nat) : Int))]) ?_ ?_))
      · walk_at "w"
        rw [show HandM.word { m with heard := s :: m.heard } = m.word from rfl, word_all]
        refine ite_w (fun h1 => ?_) fun h1 => ?_
        · walk_at "w"
          refine EvalW.compP (gN fun n => some (.bool (decide (n ∈ s :: m.heard)))) rfl P.hd rfl ?_
          refine IterE.list ?_
          walk_at "w"
          refine ⟨_, rfl, by simpa [HandM.others] using Nat.le_trans ho3 (by decide), fun _ _ => rfl, ?_, ?_⟩
          · intro v hv H' hle
            obtain ⟨y, hy, rfl⟩ := List.mem_map.mp hv
            have Rp2 := Rp1.le hle
            refine PureStep.map rfl fun L' => ?_
            simp only [nv]
            walk_at "w"
            refine CmpW.inI Rp2.h ?_
            rw [heardM_some]
            exact ⟨rfl, by rw [gN_nv]⟩
          rw [fm_gN, fm_map]
          walk_at "w"
          refine CallW.all P.hd (bs := m.others.map fun o => decide (o ∈ s :: m.heard)) (by rw [List.map_map]; rfl) ?_
          walk_at "w"
          have e3 : ((m.others.map fun o => decide (o ∈ s :: m.heard)).all id) = m.others.all fun o => decide (o ∈ s :: m.heard) := by rw [List.all_map]; rfl
          rw [e3]
          refine ite_w (fun h2 => ?_) fun h2 => ?_
          · walk_at "w"
            refine ite_t rfl ?_
            walk_at "w"
            refine EvalW.list ?_
            walk_at "w"
            refine ⟨by simp, fun x hx => ?_⟩
            have e4 : (m.isAll && !(m.others.all fun o => decide (o ∈ s :: m.heard))) = true := by rw [h1, h2]; rfl
            refine RetQ.here (ρ := fun _ => Option.none) (hQ _ x ?_ ?_ (hn1 x hx) (f1.set (hn1 x hx)))
            · rw [show toldM m s = ({ m with heard := s :: m.heard }, []) by unfold toldM; rw [if_neg (by rw [h']; decide), if_pos e4]]
              exact Rp1.fresh (o := .list []) hx
            · rw [show toldM m s = ({ m with heard := s :: m.heard }, []) by unfold toldM; rw [if_neg (by rw [h']; decide), if_pos e4], Hp.set_self]; rfl
          · refine ite_f rfl ?_
            walk_at "w"
            exact ⟨_, ⟨rfl, by rw [h1, h2]; rfl, rfl⟩, rfl, rfl, trivial⟩
        · refine ite_f rfl ?_
          walk_at "w"
          exact ⟨_, ⟨rfl, by rw [h1]; rfl, rfl⟩, rfl, rfl, trivial⟩
      rintro l H0 ⟨rfl, e4, rfl⟩
      walk_at "w"
      refine Rp1.putFreed P hc true fun H2 Rp2 e2 => ?_
      have f2 := f1.but e2 (.inl rfl)
      have hn2 : ∀ x, H2 x = none → H x = none := fun x hx => f2.none Rp Rp2 hx
      walk_at "w"
      refine ⟨_, Rp2.meth P hc (f := 96) (by with_unfolding_all rfl) (by kernel_rfl) (by kernel_rfl), Plainly.ofS P.X rfl, ?_⟩
      walk_at "w"
      refine (send_ok P _).call ⟨A, _, .freed, m.askers, _, rfl, Rp2, lview_ref Rp2.a, ho1, ?_⟩
      intro H' x r2 e5 n2 f3
      walk_at "w"
      refine RetQ.here (hQ _ x ?_ ?_ (hn2 x n2) (f2.trans f3))
      · rw [show toldM m s = sendM { m with heard := s :: m.heard, freed := true } .freed m.askers by unfold toldM; rw [if_neg (by rw [h']; decide), if_neg (by rw [e4]; decide)]]; exact r2
      · rw [show toldM m s = sendM { m with heard := s :: m.heard, freed := true } .freed m.askers by unfold toldM; rw [if_neg (by rw [h']; decide), if_neg (by rw [e4]; decide)]]; exact e5

set_option maxHeartbeats 8000000 in
theorem come_ok (P : PCx C (K8x C)) (k : Nat) : FnOK C (k + 4) (.ref 110) (S_come 125) := by
  have hc := handC C
  refine FnOK.ofS (K := K8x C) [Str.ofString "self", Str.ofString "letter"] P.X P.lim rfl rfl (by kernel_rfl) ?_ (by kernel_rfl) (by kernel_rfl) ?_
  · intro vals h
    rcases vals with _ | ⟨a, _ | ⟨b, _ | ⟨c, t⟩⟩⟩ <;> simp at h
    rfl
  · rintro args Q R H ⟨A, m, w, s, r, rfl, Rp, ⟨ho1, ho2, ho3⟩, hQ⟩
    refine ⟨rfl, fun L => ?_⟩
    simp only [lv, nv]
    walk_at "w"
    refine ExecW.assign_tuple (xs := [Str.ofString "word", Str.ofString "sender", Str.ofString "receiver"]) (.cons (.inl rfl) (.cons (.inl rfl) (.cons (.inl rfl) .nil))) P.hd ?_ (by with_unfolding_all rfl) (by with_unfolding_all rfl)
    walk_at "w"
    refine ⟨_, rfl, rfl, ?_⟩
    walk_at "w"
    refine EvalW.list ?_
    walk_at "w"
    refine ⟨by simp, fun x hx => ?_⟩
    have Rp1 := Rp.fresh (o := .list []) hx
    have f1 : HFrame H (H.set x (.list [])) A := (HFrame.refl H A).set hx
    have x1 : (H.set x (.list [])) x = some (.list (([] : List Lt).map lv)) := Hp.set_self ..
    have nx : x ≠ A.a := (Hp.ne Rp.a hx).symm
    generalize H.set x (.list []) = H1 at Rp1 f1 x1
    refine Cont.next (ExecsW.seq (fun l H' => HandRep 125 H' A (wakeM m w s).1 ∧ H' x = some (.list ((wakeM m w s).2.map lv)) ∧ HFrame H H' A ∧ l = [(Str.ofString "self", V.ref A.i), (Str.ofString "word", V.str w.str), (Str.ofString "sender", V.int ((s : Nat) : Int)), (Str.ofString "found", V.ref x)]) ?_ ?_)
    · walk_at "w"
      rw [str_back]
      refine ite_w (fun h => ?_) fun h => ?_
      · have hw : w = .back := by simpa using h
        walk_at "w"
        refine Rp1.putOwed P hc _ fun H2 Rp2 e2 => ?_
        walk_at "w"
        refine ⟨_, ⟨?_, ?_, f1.but e2 (.inl rfl), rfl⟩, rfl, rfl, rfl, rfl, trivial⟩
        · rw [show wakeM m w s = ({ m with owed := m.owed - 1 }, []) by unfold wakeM; rw [if_pos hw]]; exact Rp2
        · rw [show wakeM m w s = ({ m with owed := m.owed - 1 }, []) by unfold wakeM; rw [if_pos hw]]; exact Rp1.keep x1 e2
      · have hw : w ≠ .back := by simpa using h
        refine ExecsW.cons ?_
        have tl : ∀ (QB : Bool → Hp → Prop), QB (m.asker || m.waker.isSome) H1 → (if m.asker = true then QB true H1 else if (!(ov m.waker).isNone) = true then QB true H1 else QB false H1) := fun QB h => by
          cases ha : m.asker <;> cases hk : m.waker <;> simp [ha, hk, ov, V.isNone] at h ⊢ <;> exact h
        walk_at "w"
        refine ite_w (fun ha => ?_) fun ha => ?_
        · refine ite_t rfl ?_
          walk_at "w"
          refine ⟨_, MethIs.append x1, Plainly.builtin _, ?_⟩
          walk_at "w"
          refine ⟨?_, by simp⟩
          refine ArgsW.nil ?_
          refine CallW.append x1 (by simp) ?_
          have e3 : wakeM m w s = (m, [(.back, m.num, s)]) := by unfold wakeM; rw [if_neg hw, if_pos (by rw [ha]; rfl)]
          walk_at "w"
          refine ⟨_, ⟨?_, ?_, f1.set hx, rfl⟩, rfl, rfl, rfl, rfl, trivial⟩
          · rw [e3]; exact Rp1.list x1 nx
          · rw [e3, Hp.set_self]; rfl
        · walk_at "w"
          refine CmpW.isNotNone (ov_notCon _) ?_
          walk_at "w"
          rw [ov_isNone]
          refine ite_w (fun hb => ?_) fun hb => ?_
          · refine ite_t rfl ?_
            walk_at "w"
            refine ⟨_, MethIs.append x1, Plainly.builtin _, ?_⟩
            walk_at "w"
            refine ⟨?_, by simp⟩
            refine ArgsW.nil ?_
            refine CallW.append x1 (by simp) ?_
            have e3 : wakeM m w s = (m, [(.back, m.num, s)]) := by
              unfold wakeM; rw [if_neg hw, if_pos]
              cases hk : m.waker with
              | none => rw [hk] at hb; cases hb
              | some u => simp
            walk_at "w"
            refine ⟨_, ⟨?_, ?_, f1.set hx, rfl⟩, rfl, rfl, rfl, rfl, trivial⟩
            · rw [e3]; exact Rp1.list x1 nx
            · rw [e3, Hp.set_self]; rfl
          · walk_at "w"
            refine ite_f rfl ?_
            walk_at "w"
            refine Rp1.putWaker P hc (some s) fun H2 Rp2 e2 => ?_
            have e3 : wakeM m w s = ({ m with waker := some s }, []) := by
              unfold wakeM; rw [if_neg hw, if_neg]
              cases hk : m.waker with
              | none => simpa using ha
              | some u => rw [hk] at hb; cases hb
            walk_at "w"
            refine ⟨_, ⟨?_, ?_, f1.but e2 (.inl rfl), rfl⟩, rfl, rfl, rfl, rfl, trivial⟩
            · rw [e3]; exact Rp2
            · rw [e3]; exact Rp1.keep x1 e2
    clear Rp1 f1 x1 H1
    rintro l H1 ⟨Rp1, x1, f1, rfl⟩
    have same1 := wake_same m w s
    have size1 := wake_sizes m w s
    have hok1 : HOk (wakeM m w s).1 := ⟨by rw [size1.1]; exact ho1, by rw [size1.2.1]; exact ho2, by rw [same1.others]; exact ho3⟩
    have cm : comeM m w s = endM (midM (wakeM m w s).1 w s).1 ((wakeM m w s).2 ++ (midM (wakeM m w s).1 w s).2) := rfl
    have ln1 := size1.2.2
    generalize (wakeM m w s).1 = m1 at Rp1 hok1 cm
    generalize (wakeM m w s).2 = g1 at x1 cm ln1
    refine ExecsW.seq (fun l H' => HandRep 125 H' A (if w = .ask then askedM m1 s else (m1, [])).1 ∧ H' x = some (.list ((g1 ++ (if w = .ask then askedM m1 s else (m1, [])).2).map lv)) ∧ HFrame H H' A ∧ l = [(Str.ofString "self", V.ref A.i), (Str.ofString "word", V.str w.str), (Str.ofString "sender", V.int ((s : Nat) : Int)), (Str.ofString "found", V.ref x)]) ?_ ?_
    · walk_at "w"
      rw [str_ask]
      refine ite_w (fun h => ?_) fun h => ?_
      · have hw : w = .ask := by simpa using h
        simp only [hw, if_true]
        walk_at "w"
        refine ⟨_, MethIs.extend x1, Plainly.builtin _, ?_⟩
        walk_at "w"
        refine ⟨_, Rp1.meth P hc (f := 117) (by with_unfolding_all rfl) (by kernel_rfl) (by kernel_rfl), Plainly.ofS P.X rfl, ?_⟩
        walk_at "w"
        refine (asked_ok P _).call ⟨A, m1, s, rfl, Rp1, hok1, ?_⟩
        intro H2 y r2 e2 n2 f2
        have x2 := Rp1.frame x1 nx f2
        have ms := mid_sizes m1 .ask s
        have nyx : y ≠ x := fun q => by rw [q, x1] at n2; cases n2
        walk_at "w"
        refine CallW.extend x2 e2 (by have := ms.2.2; have := hok1.1; have := hok1.2.2; simp only [List.length_map]; show _ + (midM m1 .ask s).2.length ≤ _; omega) ?_
        walk_at "w"
        refine ⟨_, ⟨r2.list x2 nx, ?_, (f1.trans f2).set hx, rfl⟩, rfl, rfl, rfl, rfl, trivial⟩
        rw [Hp.set_self, List.map_append]
      · have hw : w ≠ .ask := by simpa using h
        simp only [hw, if_false]
        walk_at "w"
        exact ⟨_, ⟨Rp1, by simpa using x1, f1, rfl⟩, rfl, rfl, rfl, rfl, trivial⟩
    clear Rp1 f1 x1 H1
    rintro l H1 ⟨Rp1, x1, f1, rfl⟩
    have hok2 : HOk (if w = .ask then askedM m1 s else (m1, [])).1 ∨ w = .ask := by
      by_cases hw : w = .ask
      · exact .inr hw
      · simp only [hw, if_false]; exact .inl hok1
    have cm2 : w = .freed → (if w = .ask then askedM m1 s else (m1, [])) = (m1, []) := fun h => by rw [h]; rfl
    refine ExecsW.seq (fun l H' => HandRep 125 H' A (midM m1 w s).1 ∧ H' x = some (.list ((g1 ++ (midM m1 w s).2).map lv)) ∧ HFrame H H' A ∧ l = [(Str.ofString "self", V.ref A.i), (Str.ofString "word", V.str w.str), (Str.ofString "sender", V.int ((s : Nat) : Int)), (Str.ofString "found", V.ref x)]) ?_ ?_
    · walk_at "w"
      rw [str_freed]
      refine ite_w (fun h => ?_) fun h => ?_
      · have hw : w = .freed := by simpa using h
        rw [cm2 hw] at Rp1 x1
        simp only [List.append_nil] at x1
        simp only [hw]
        walk_at "w"
        refine ⟨_, MethIs.extend x1, Plainly.builtin _, ?_⟩
        walk_at "w"
        refine ⟨_, Rp1.meth P hc (f := 122) (by with_unfolding_all rfl) (by kernel_rfl) (by kernel_rfl), Plainly.ofS P.X rfl, ?_⟩
        walk_at "w"
        refine (told_ok P _).call ⟨A, m1, s, rfl, Rp1, hok1, ?_⟩
        intro H2 y r2 e2 n2 f2
        have x2 := Rp1.frame x1 nx f2
        have ms := mid_sizes m1 .freed s
        walk_at "w"
        refine CallW.extend x2 e2 (by have := ms.2.2; have := hok1.1; have := hok1.2.2; simp only [List.length_map]; show _ + (midM m1 .freed s).2.length ≤ _; omega) ?_
        walk_at "w"
        refine ⟨_, ⟨r2.list x2 nx, ?_, (f1.trans f2).set hx, rfl⟩, rfl, rfl, rfl, rfl, trivial⟩
        rw [Hp.set_self, List.map_append]; rfl
      · have hw : w ≠ .freed := by simpa using h
        walk_at "w"
        have e3 : midM m1 w s = (if w = .ask then askedM m1 s else (m1, [])) := by
          cases w
          · rfl
          · exact absurd rfl hw
          · rfl
        rw [e3]
        exact ⟨_, ⟨Rp1, x1, f1, rfl⟩, rfl, rfl, rfl, rfl, trivial⟩
    clear Rp1 f1 x1 H1 cm2 hok2
    rintro l H1 ⟨Rp1, x1, f1, rfl⟩
    have ms := mid_sizes m1 w s
    have ln : (g1 ++ (midM m1 w s).2).length ≤ 1000 := by have := ms.2.2; have := hok1.1; have := hok1.2.2; rw [List.length_append]; omega
    generalize (midM m1 w s).1 = m2 at Rp1 cm
    generalize g1 ++ (midM m1 w s).2 = g2 at x1 cm ln
    walk_at "w"
    refine ite_w (fun h0 => ?_) fun h0 => ?_
    · walk_at "w"
      refine CmpW.isNotNone (ov_notCon _) ?_
      walk_at "w"
      rw [ov_isNone]
      refine ite_w (fun hb => ?_) fun hb => ?_
      · walk_at "w"
        refine ite_t rfl ?_
        obtain ⟨u, hu⟩ : ∃ u, m2.waker = some u := by
          cases hk : m2.waker with
          | none => rw [hk] at hb; cases hb
          | some u => exact ⟨u, rfl⟩
        have e0 : m2.owed = 0 := by simpa using h0
        walk_at "w"
        refine ⟨_, MethIs.append x1, Plainly.builtin _, ?_⟩
        walk_at "w"
        refine ⟨?_, by simp⟩
        refine ArgsW.nil ?_
        refine CallW.append x1 (by simpa using ln) ?_
        have Rp2 := Rp1.list (l' := g2.map lv ++ [V.tup [.str (Str.ofString "back"), .int ((m2.num : Nat) : Int), ov m2.waker]]) x1 nx
        have x2 : (H1.set x (.list (g2.map lv ++ [V.tup [.str (Str.ofString "back"), .int ((m2.num : Nat) : Int), ov m2.waker]]))) x = some (.list ((g2 ++ [(LW.back, m2.num, u)]).map lv)) := by
          rw [Hp.set_self, hu]; simp [lv, LW.str, nv, ov]
        have f2 : HFrame H (H1.set x (.list (g2.map lv ++ [V.tup [.str (Str.ofString "back"), .int ((m2.num : Nat) : Int), ov m2.waker]]))) A := f1.set hx
        generalize H1.set x (.list (g2.map lv ++ [V.tup [.str (Str.ofString "back"), .int ((m2.num : Nat) : Int), ov m2.waker]])) = H2 at Rp2 x2 f2
        walk_at "w"
        refine Rp2.putWaker P hc none fun H3 Rp3 e3 => ?_
        walk_at "w"
        have e4 : comeM m w s = ({ m2 with waker := none }, g2 ++ [(LW.back, m2.num, u)]) := by rw [cm]; unfold endM; rw [hu]; simp [e0]
        refine RetQ.here (hQ _ x ?_ ?_ hx (f2.but e3 (.inl rfl)))
        · rw [e4]; exact Rp3
        · rw [e4]; exact Rp2.keep x2 e3
      · refine ite_f rfl ?_
        walk_at "w"
        have e4 : comeM m w s = (m2, g2) := by
          rw [cm]; unfold endM
          cases hk : m2.waker with
          | none => rfl
          | some u => rw [hk] at hb; cases hb
        refine RetQ.here (hQ _ x ?_ ?_ hx f1)
        · rw [e4]; exact Rp1
        · rw [e4]; exact x1
    · refine ite_f rfl ?_
      walk_at "w"
      have e0 : m2.owed ≠ 0 := by simpa using h0
      have e4 : comeM m w s = (m2, g2) := by
        rw [cm]; unfold endM
        cases hk : m2.waker with
        | none => rfl
        | some u => simp [e0]
      refine RetQ.here (hQ _ x ?_ ?_ hx f1)
      · rw [e4]; exact Rp1
      · rw [e4]; exact x1

set_option maxHeartbeats 8000000 in
theorem init_ok (P : PCx C (K8x C)) (k : Nat) : FnOK C (k + 1) (.ref 91) (S_init 125) := by
  have hc := handC C
  refine FnOK.ofS (K := K8x C) [Str.ofString "self", Str.ofString "number", Str.ofString "wait", Str.ofString "is_asker"] P.X P.lim rfl rfl (by kernel_rfl) ?_ (by kernel_rfl) (by kernel_rfl) ?_
  · intro vals h
    rcases vals with _ | ⟨a, _ | ⟨b, _ | ⟨c, _ | ⟨d, _ | ⟨e, t⟩⟩⟩⟩⟩ <;> simp at h
    rfl
  · rintro args Q R H ⟨x, d, num, w, b, rfl, hx, hd, hn, hQ⟩
    refine ⟨rfl, fun L => ?_⟩
    simp only [nv]
    have I0 : IRep 125 H H x d [] 0 := ⟨hx, hd, fun _ _ e _ => e⟩
    walk_at "w"
    refine I0.put P hc (by decide +kernel) (by decide) fun H1 I1 _ => ?_
    clear I0
    walk_at "w"
    refine I1.put P hc (by decide +kernel) (by decide) fun H2 I2 _ => ?_
    clear I1
    walk_at "w"
    refine CmpW.isNone (by rcases w with _ | ⟨_, _⟩ <;> trivial) ?_
    walk_at "w"
    refine I2.put P hc (by decide +kernel) (by decide) fun H3 I3 _ => ?_
    clear I2
    walk_at "w"
    refine I3.put P hc (by decide +kernel) (by decide) fun H4 I4 _ => ?_
    clear I3
    walk_at "w"
    refine EvalW.list_fz ?_
    walk_at "w"
    refine ⟨by simp, ?_⟩
    walk_at "w"
    refine I4.put P hc (by decide +kernel) (by decide) fun H5 I5 _ => ?_
    clear I4
    refine Cont.next (ExecsW.seq (fun l H' => IRep 125 H H' x d [(Str.ofString "number", .int ((num : Nat) : Int)), (Str.ofString "is_asker", .bool b), (Str.ofString "is_freed", .bool w.isNone), (Str.ofString "word", .str (initM num w b).word), (Str.ofString "others", .lst ((initM num w b).others.map nv))] 5 ∧ l = [(Str.ofString "self", V.ref x)]) ?_ ?_)
    · walk_at "w"
      refine CmpW.isNotNone (by rcases w with _ | ⟨_, _⟩ <;> trivial) ?_
      walk_at "w"
      rcases w with _ | ⟨a, l⟩
      · refine ite_f rfl ?_
        walk_at "w"
        exact ⟨_, ⟨I5, rfl⟩, rfl, trivial⟩
      · refine ite_t rfl ?_
        simp only [wv]
        walk_at "w"
        refine SubW.tup (by decide) (by decide) rfl ?_
        walk_at "w"
        refine I5.putOld P hc (by decide +kernel) (by decide) (by with_unfolding_all rfl) fun H6 I6 _ => ?_
        walk_at "w"
        refine SubW.tup (by decide) (by decide) rfl ?_
        walk_at "w"
        refine CallW.listCopyF rfl (by simpa [initM, HandM.others] using Nat.le_trans hn (by decide)) ?_
        walk_at "w"
        refine I6.putOld P hc (by decide +kernel) (by decide) (by with_unfolding_all rfl) fun H7 I7 _ => ?_
        walk_at "w"
        exact ⟨_, ⟨I7, rfl⟩, rfl, trivial⟩
    clear I5
    rintro l H5 ⟨I5, rfl⟩
    walk_at "w"
    refine I5.put P hc (by decide +kernel) (by decide) fun H6 I6 _ => ?_
    clear I5
    walk_at "w"
    refine EvalW.list ?_
    walk_at "w"
    refine ⟨by simp, fun ya hya => ?_⟩
    have hya0 := I6.old hya
    have I7 := I6.fresh (o := .list []) hya hya0
    have a7 : (H6.set ya (.list [])) ya = some (.list []) := Hp.set_self ..
    generalize H6.set ya (.list []) = H7 at I7 a7
    clear I6
    walk_at "w"
    refine I7.put P hc (by decide +kernel) (by decide) fun H8 I8 e8 => ?_
    have a8 : H8 ya = some (.list []) := by rw [e8 ya (Hp.ne' a7 I7.d (by simp))]; exact a7
    clear I7 a7
    walk_at "w"
    refine EvalW.dictI fun yh hyh => ?_
    have hyh0 := I8.old hyh
    have I9 := I8.fresh (o := .dictI (fun _ => none) 0) hyh hyh0
    have a9 : (H8.set yh (.dictI (fun _ => none) 0)) ya = some (.list []) := by rw [Hp.set_ne (Hp.ne a8 hyh)]; exact a8
    have h9 : (H8.set yh (.dictI (fun _ => none) 0)) yh = some (.dictI (fun _ => none) 0) := Hp.set_self ..
    generalize H8.set yh (.dictI (fun _ => none) 0) = H9 at I9 a9 h9
    clear I8 a8
    walk_at "w"
    refine I9.put P hc (by decide +kernel) (by decide) fun HA IA eA => ?_
    have aA : HA ya = some (.list []) := by rw [eA ya (Hp.ne' a9 I9.d (by simp))]; exact a9
    have hA : HA yh = some (.dictI (fun _ => none) 0) := by rw [eA yh (Hp.ne' h9 I9.d (by simp))]; exact h9
    clear I9 a9 h9
    walk_at "w"
    refine IA.put P hc (by decide +kernel) (by decide) fun HB IB eB => ?_
    have aB : HB ya = some (.list []) := by rw [eB ya (Hp.ne' aA IA.d (by simp))]; exact aA
    have hB : HB yh = some (.dictI (fun _ => none) 0) := by rw [eB yh (Hp.ne' hA IA.d (by simp))]; exact hA
    clear IA aA hA
    walk_at "w"
    refine IB.put P hc (by decide +kernel) (by decide) fun HC IC eC => ?_
    have aC : HC ya = some (.list []) := by rw [eC ya (Hp.ne' aB IB.d (by simp))]; exact aB
    have hC : HC yh = some (.dictI (fun _ => none) 0) := by rw [eC yh (Hp.ne' hB IB.d (by simp))]; exact hB
    walk_at "w"
    refine ⟨.none, HC, Fz.refl, ?_⟩
    refine hQ HC ⟨x, d, ya, yh⟩ rfl rfl ⟨IC.i, IC.d, aC, ?_⟩ hya0 hyh0 fun b o e q => IC.fr b o e q
    rw [hC]
    have : (fun _ => Option.none : Int → Option V) = heardM [] := by funext i; simp [heardM]
    rw [this]; rfl

variable {C : Cx}
theorem netC (C : Cx) : NetCls (K8x C) 233 := ⟨⟨by kernel_rfl, by kernel_rfl, by kernel_rfl, by kernel_rfl, by kernel_rfl⟩, by kernel_rfl⟩

set_option maxHeartbeats 4000000 in
theorem put_ok (P : PCx C (K8x C)) (k : Nat) : FnOK C (k + 1) (.ref 169) (S_put 125 233) := by
  have hc := handC C
  have hN := netC C
  refine FnOK.ofS (K := K8x C) [Str.ofString "self", Str.ofString "letters"] P.X P.lim rfl rfl (by kernel_rfl) ?_ (by kernel_rfl) (by kernel_rfl) ?_
  · intro vals h
    rcases vals with _ | ⟨a, _ | ⟨b, _ | ⟨c, t⟩⟩⟩ <;> simp at h
    rfl
  · rintro args Q R H ⟨N, As, n, asker, M, x, l, rfl, Rp, hx, hne, hlen, hQ⟩
    refine ⟨rfl, fun L => ?_⟩
    walk_at "w"
    refine ⟨_, MethIs.extend Rp.row, Plainly.builtin _, ?_⟩
    walk_at "w"
    refine CallW.extend Rp.row hx (by simp only [List.length_map]; omega) ?_
    rw [← List.map_append]
    have Rp1 := Rp.setRow (M.row ++ l)
    have x1 : (H.set N.row (.list ((M.row ++ l).map lv))) x = some (.list (l.map lv)) := (Hp.set_ne hne).trans hx
    have e1 : ∀ b, b ≠ N.row → (H.set N.row (.list ((M.row ++ l).map lv))) b = H b := fun b hb => Hp.set_ne hb
    generalize H.set N.row (.list ((M.row ++ l).map lv)) = H1 at Rp1 x1 e1
    walk_at "w"
    refine CallW.len (lview_ref x1) (by simp only [List.length_map]; omega) ?_
    walk_at "w"
    have hcast : ((M.many : Nat) : Int) + ((l.map lv).length : Nat) = ((M.many + l.length : Nat) : Int) := by simp
    rw [hcast]
    refine Rp1.putMany P hN _ fun H2 Rp2 e2 => ?_
    walk_at "w"
    refine ⟨.none, H2, Fz.refl, hQ H2 Rp2 fun b h1 h2 => ?_⟩
    rw [e2 b h1, e1 b h2]

set_option maxHeartbeats 4000000 in
theorem letters_ok (P : PCx C (K8x C)) (k : Nat) : FnOK C (k + 1) (.ref 183) (S_letters 125 233) := by
  have hc := handC C
  have hN := netC C
  refine FnOK.ofS (K := K8x C) [Str.ofString "self"] P.X P.lim rfl rfl (by kernel_rfl) ?_ (by kernel_rfl) (by kernel_rfl) ?_
  · intro vals h
    rcases vals with _ | ⟨a, _ | ⟨b, t⟩⟩ <;> simp at h
    rfl
  · rintro args Q R H ⟨N, As, n, asker, M, rfl, Rp, hlen, hQ⟩
    refine ⟨rfl, fun L => ?_⟩
    walk_at "w"
    rcases hQ with hQ | hQ
    · refine CallW.listCopyF (lview_ref Rp.row) (by simp only [List.length_map]; omega) ?_
      walk_at "w"
      exact RetQ.here hQ
    · refine CallW.listCopy (lview_ref Rp.row) (by simp only [List.length_map]; omega) fun x hx => ?_
      walk_at "w"
      exact RetQ.here (hQ x hx)

set_option maxHeartbeats 4000000 in
theorem sent_ok (P : PCx C (K8x C)) (k : Nat) : FnOK C (k + 1) (.ref 197) (S_sent 125 233) := by
  have hc := handC C
  have hN := netC C
  refine FnOK.ofS (K := K8x C) [Str.ofString "self"] P.X P.lim rfl rfl (by kernel_rfl) ?_ (by kernel_rfl) (by kernel_rfl) ?_
  · intro vals h
    rcases vals with _ | ⟨a, _ | ⟨b, t⟩⟩ <;> simp at h
    rfl
  · rintro args Q R H ⟨N, As, n, asker, M, rfl, Rp, hQ⟩
    refine ⟨rfl, fun L => ?_⟩
    walk_at "w"
    exact RetQ.here hQ

set_option maxHeartbeats 4000000 in
theorem rung_ok (P : PCx C (K8x C)) (k : Nat) : FnOK C (k + 1) (.ref 204) (S_rung 125 233) := by
  have hc := handC C
  have hN := netC C
  refine FnOK.ofS (K := K8x C) [Str.ofString "self"] P.X P.lim rfl rfl (by kernel_rfl) ?_ (by kernel_rfl) (by kernel_rfl) ?_
  · intro vals h
    rcases vals with _ | ⟨a, _ | ⟨b, t⟩⟩ <;> simp at h
    rfl
  · rintro args Q R H ⟨N, As, n, asker, M, rfl, Rp, hj, hn, hQ⟩
    refine ⟨rfl, fun L => ?_⟩
    have Rj := Rp.hands asker hj
    walk_at "w"
    refine SubW.list rfl (by omega) (by omega) (u := .ref (As asker).i) (by simpa using hrefs_get hj) ?_
    walk_at "w"
    refine ite_w (fun h => ?_) fun h => ?_
    · walk_at "w"
      refine RetQ.here ?_
      have h : 0 < (M.hands asker).owed := by simpa using h
      simpa [rungV, h] using hQ
    · walk_at "w"
      refine RetQ.here ?_
      have h : ¬ 0 < (M.hands asker).owed := by simpa using h
      simpa [rungV, h] using hQ

set_option maxHeartbeats 8000000 in
theorem bring_ok (P : PCx C (K8x C)) (k : Nat) : FnOK C (k + 5) (.ref 190) (S_bring 125 233) := by
  have hc := handC C
  have hN := netC C
  refine FnOK.ofS (K := K8x C) [Str.ofString "self", Str.ofString "place"] P.X P.lim rfl rfl (by kernel_rfl) ?_ (by kernel_rfl) (by kernel_rfl) ?_
  · intro vals h
    rcases vals with _ | ⟨a, _ | ⟨b, _ | ⟨c, t⟩⟩⟩ <;> simp at h
    rfl
  · rintro args Q R H ⟨N, As, n, asker, M, p, rfl, Rp, ⟨ok1, ok2, ok3⟩, hn, hp, hQ⟩
    refine ⟨rfl, fun L => ?_⟩
    simp only [nv]
    walk_at "w"
    refine CallW.len (lview_ref Rp.row) (by simp only [List.length_map]; omega) ?_
    rw [List.length_map]
    walk_at "w"
    refine (is_place_ok P _).call ⟨_, _, rfl, ?_⟩
    walk_at "w"
    refine ite_f (by simp; omega) ?_
    walk_at "w"
    refine ⟨_, MethIs.pop Rp.row, Plainly.builtin _, ?_⟩
    walk_at "w"
    obtain ⟨⟨w, s, r⟩, hl⟩ : ∃ t, M.row[p]? = some t := ⟨_, List.getElem?_eq_getElem hp⟩
    have hr : r < n := ok2 _ (List.mem_of_getElem? hl)
    refine CallW.popAt Rp.row (by omega) (by omega) (u := lv (w, s, r)) (by simp [hl]) (by simp only [List.length_map]; omega) ?_
    rw [Int.toNat_natCast, map_eraseIdx']
    have Rp1 := Rp.setRow (M.row.eraseIdx p)
    have e1 : ∀ b, b ≠ N.row → (H.set N.row (.list ((M.row.eraseIdx p).map lv))) b = H b := fun b hb => Hp.set_ne hb
    generalize H.set N.row (.list ((M.row.eraseIdx p).map lv)) = H1 at Rp1 e1
    have hn1 : ∀ x, H1 x = none → H x = none := fun x hx => by
      rw [← e1 x (Hp.ne Rp1.row hx).symm]; exact hx
    have f1 : NFrame H H1 N As n := (NFrame.refl H N As n).but e1 (.inr (.inl rfl))
    have Rj := Rp1.hands r hr
    have sz := come_sizes (M.hands r) w s
    simp only [lv, nv]
    walk_at "w"
    refine SubW.tup (by decide) (by decide) rfl ?_
    walk_at "w"
    refine SubW.list rfl (by omega) (by omega) (u := .ref (As r).i) (by simpa using hrefs_get hr) ?_
    walk_at "w"
    refine ⟨_, Rj.meth P hc (f := 110) (by with_unfolding_all rfl) (by kernel_rfl) (by kernel_rfl), Plainly.ofS P.X rfl, ?_⟩
    walk_at "w"
    refine (come_ok P _).call ⟨As r, M.hands r, w, s, r, rfl, Rj, ok1 r hr, ?_⟩
    intro H2 x R2 x2 n2 fr2
    have Rp2 := Rp1.hand hr R2 fr2
    have f2 : NFrame H H2 N As n := f1.trans (NFrame.hand hr fr2)
    have nx : x ≠ N.row := fun q => by rw [q, Rp1.row] at n2; cases n2
    have nd : x ≠ N.d := fun q => by rw [q, Rp1.d] at n2; cases n2
    have h0 := hn1 x n2
    walk_at "w"
    refine ⟨_, Rp2.meth P hN (f := 169) (by with_unfolding_all rfl) (by kernel_rfl) (by kernel_rfl), Plainly.ofS P.X rfl, ?_⟩
    walk_at "w"
    have hk := ok1 r hr
    refine (put_ok P _).call ⟨N, As, n, asker, _, x, _, rfl, Rp2, x2, nx, ?_, ?_⟩
    · have h1 := List.length_eraseIdx_le M.row p
      have h2 := sz.2.2
      have h3 := hk.1
      have h4 := hk.2.2
      show (M.row.eraseIdx p).length + _ ≤ _
      omega
    intro H3 Rp3 e3
    have e4 : bringM M p = (⟨upd M.hands r (comeM (M.hands r) w s).1, M.row.eraseIdx p ++ (comeM (M.hands r) w s).2, M.many + (comeM (M.hands r) w s).2.length⟩, (comeM (M.hands r) w s).2) := by
      unfold bringM; rw [hl]
    walk_at "w"
    refine RetQ.here (hQ H3 x ?_ ?_ h0 ?_)
    · rw [e4]; exact Rp3
    · rw [e4, e3 x nd nx]; exact x2
    · intro b o e q
      rw [e3 b (fun z => q (.inl z)) (fun z => q (.inr (.inl z)))]
      exact f2 b o e q

set_option maxHeartbeats 4000000 in
theorem shown_ok (P : PCx C (K8x C)) (k : Nat) : FnOK C (k + 1) (.ref 209) (S_shown 125 233) := by
  have hc := handC C
  have hN := netC C
  refine FnOK.ofS (K := K8x C) [Str.ofString "self"] P.X P.lim rfl rfl (by kernel_rfl) ?_ (by kernel_rfl) (by kernel_rfl) ?_
  · intro vals h
    rcases vals with _ | ⟨a, _ | ⟨b, t⟩⟩ <;> simp at h
    rfl
  · rintro args Q R H ⟨N, As, n, asker, M, rfl, Rp, hn, hQ⟩
    refine ⟨rfl, fun L => ?_⟩
    walk_at "w"
    rcases hQ with hQ | hQ
    · refine EvalW.compP (gR (fun k => (As k).i) n fun k => if ((M.hands k).has && !(M.hands k).freed) = true then some (nv (M.hands k).num) else none) rfl P.hd rfl ?_
      refine IterE.list ?_
      walk_at "w"
      refine ⟨_, rfl, by rw [hrefs_len]; omega, fun _ _ => rfl, ?_, ?_⟩
      · intro v hv H' hle
        rw [hrefs_refs] at hv
        obtain ⟨j, hj, rfl⟩ := List.mem_map.mp hv
        have hj : j < n := by simpa using hj
        have Rj := (Rp.hands j hj).le hle
        have gj := gR_ref (f := fun k => if ((M.hands k).has && !(M.hands k).freed) = true then some (nv (M.hands k).num) else none) hj Rp.inj
        refine PureStep.filt rfl fun L' => ?_
        walk_at "w"
        refine ite_w (fun h1 => ?_) fun h1 => ?_
        · walk_at "w"
          refine ite_w (fun h2 => ?_) fun h2 => ?_
          · walk_at "w"
            refine ⟨rfl, ite_t rfl ?_⟩
            walk_at "w"
            refine ⟨rfl, ?_⟩
            rw [gj, h1, h2]; rfl
          · refine ⟨rfl, ite_f rfl ?_⟩
            rw [gj, h1, h2]; rfl
        · refine ⟨rfl, ite_f rfl ?_⟩
          rw [gj, h1]; rfl
      rw [hrefs_refs, fm_refs Rp.inj, fm_filt]
      walk_at "w"
      exact RetQ.here hQ
    · refine EvalW.compO (gR (fun k => (As k).i) n fun k => if ((M.hands k).has && !(M.hands k).freed) = true then some (nv (M.hands k).num) else none) rfl P.hd rfl ?_
      refine IterE.list ?_
      walk_at "w"
      refine ⟨_, rfl, by rw [hrefs_len]; omega, fun _ _ => rfl, ?_, fun x hx => ?_⟩
      · intro v hv H' hle
        rw [hrefs_refs] at hv
        obtain ⟨j, hj, rfl⟩ := List.mem_map.mp hv
        have hj : j < n := by simpa using hj
        have Rj := (Rp.hands j hj).le hle
        have gj := gR_ref (f := fun k => if ((M.hands k).has && !(M.hands k).freed) = true then some (nv (M.hands k).num) else none) hj Rp.inj
        refine PureStep.filt rfl fun L' => ?_
        walk_at "w"
        refine ite_w (fun h1 => ?_) fun h1 => ?_
        · walk_at "w"
          refine ite_w (fun h2 => ?_) fun h2 => ?_
          · walk_at "w"
            refine ⟨rfl, ite_t rfl ?_⟩
            walk_at "w"
            refine ⟨rfl, ?_⟩
            rw [gj, h1, h2]; rfl
          · refine ⟨rfl, ite_f rfl ?_⟩
            rw [gj, h1, h2]; rfl
        · refine ⟨rfl, ite_f rfl ?_⟩
          rw [gj, h1]; rfl
      rw [hrefs_refs, fm_refs Rp.inj, fm_filt]
      walk_at "w"
      exact RetQ.here (hQ x hx)

variable {C : Cx}
set_option maxHeartbeats 8000000 in
theorem ninit_ok (P : PCx C (K8x C)) (k : Nat) : FnOK C (k + 5) (.ref 162) (S_ninit 125 233) := by
  have hc := handC C
  have hN := netC C
  refine FnOK.ofS (K := K8x C) [Str.ofString "self", Str.ofString "waits", Str.ofString "asker"] P.X P.lim rfl rfl (by kernel_rfl) ?_ (by kernel_rfl) (by kernel_rfl) ?_
  · intro vals h
    rcases vals with _ | ⟨a, _ | ⟨b, _ | ⟨c, _ | ⟨d, t⟩⟩⟩⟩ <;> simp at h
    rfl
  · rintro args Q R H ⟨x, d, W, asker, rfl, hWok, ha, hx, hd, hQ⟩
    refine ⟨rfl, fun L => ?_⟩
    obtain ⟨hW1, hW2, hW3⟩ := id hWok
    simp only [nv]
    walk_at "w"
    refine (need_ok P _).call ⟨W, rfl, hWok, ?_⟩
    walk_at "w"
    refine CallW.len rfl (by simp; omega) ?_
    rw [List.length_map]
    walk_at "w"
    refine (is_place_ok P _).call ⟨_, _, rfl, ?_⟩
    walk_at "w"
    refine ite_f (by simp; omega) ?_
    walk_at "w"
    have J0 : JRep 233 H H x d [] 0 := ⟨hx, hd, fun _ _ e _ => e⟩
    refine J0.put P hN (by decide +kernel) (by decide) fun H1 J1 e1 => ?_
    walk_at "w"
    refine EvalW.comp true rfl P.hd (fun _ => ⟨_, _, _, rfl⟩) ?_
    refine IterE.enum (P.blt (by kernel_rfl) (by boot_fast)) rfl ?_
    walk_at "w"
    refine ⟨_, rfl, fun D r acc H' => ∃ (i : Nat) (As : Nat → HA), r = (enumV (W.map wv)).drop i ∧ i ≤ W.length ∧ acc = hrefs As i ∧ H' D = some (.list acc) ∧ H1 D = none ∧ HsRep 125 H1 H' W asker As i D, ⟨?_, ?_⟩, ?_, ?_, ?_⟩
    · rintro D r acc H' ⟨i, As, e1, e2, e3, e4, e5, e6⟩
      exact ⟨e4, by rw [e3, hrefs_len]; omega⟩
    · rintro L' D v r acc H' ⟨i, As, er, ei, ea, eD, e1D, Hs⟩
      obtain ⟨hv, hr, hi⟩ := drop_cons er
      obtain ⟨w, hw, hwm, rfl⟩ := enum_get hv
      have hi' : i < W.length := by rw [enumV_length, List.length_map] at hi; exact hi
      refine AssignL.tuple (.cons rfl (.cons rfl .nil)) rfl P.hd ⟨?_, ?_⟩
      · intro y u e
        simp only [setAll, Rho.set]
        split
        · rename_i q; subst q; cases e
        · split
          · rename_i q; subst q; cases e
          · exact e
      refine IfsW.nil ?_
      refine ite_t rfl ?_
      walk_at "w"
      have hst : startM W asker i = initM i w (decide (i = asker)) := by unfold startM; rw [List.getD_eq_getElem?_getD, hw]; rfl
      refine CallW.make P (by kernel_rfl) (by kernel_rfl) (by kernel_rfl) (init_ok P _) fun y z hy hz hyz => ?_
      refine ⟨y, z, i, w, _, rfl, Hp.set_self .., (Hp.set_ne hyz.symm).trans (Hp.set_self ..), ?_, ?_⟩
      · have := hW3 w hwm
        rcases w with _ | ⟨b, l⟩
        · exact Nat.zero_le _
        · exact Nat.le_trans this.2.2.2 (by decide)
      intro H'' A hA1 hA2 rep na nh fr
      refine ⟨rfl, ?_⟩
      have le : Hp.le H' H'' := fun b o e => by
        have b1 : b ≠ z := Hp.ne e hz
        have b2 : b ≠ y := Hp.ne e hy
        exact fr b o (by rw [Hp.set_ne b2, Hp.set_ne b1]; exact e) b1
      have back : ∀ q, ((H'.set z (.ns (Rho.of []) 0)).set y (.inst 125 z)) q = none → H' q = none := fun q hq => by
        by_cases q1 : q = y
        · rw [q1, Hp.set_self] at hq; cases hq
        · rw [Hp.set_ne q1] at hq
          by_cases q2 : q = z
          · rw [q2, Hp.set_self] at hq; cases hq
          · rw [Hp.set_ne q2] at hq; exact hq
      have hb : (decide (i = asker)) = ((i : Int) == (asker : Int)) := by
        by_cases q : i = asker
        · subst q; simp
        · have : ¬ (i : Int) = (asker : Int) := by omega
          simp [q]; exact this
      rw [← hb, ← hst] at rep
      refine ⟨le _ _ eD, i + 1, upd As i A, hr, by omega, ?_, Hp.set_self .., e1D, ?_⟩
      · rw [hrefs_step, ea, hA1]
      · exact Hs.step eD e1D le rep (by rw [hA1]; exact hy) (by rw [hA2]; exact hz) (back _ na) (back _ nh)
    · intro D hD
      exact ⟨0, fun _ => ⟨0, 0, 0, 0⟩, rfl, Nat.zero_le _, rfl, Hp.set_self .., hD, HsRep.zero hD⟩
    · intro D r acc H' _; rfl
    rintro D acc H' ⟨i, As, er, ei, ea, eD, e1D, Hs⟩
    have hi := drop_nil er
    rw [enumV_length, List.length_map] at hi
    have hi : i = W.length := by omega
    subst hi
    obtain ⟨fz, hands, le⟩ := Hs.done eD e1D
    refine ⟨_, _, fz, ?_⟩
    have J2 := J1.le le
    subst ea
    generalize H'.del D = H2 at hands le J2
    have nd0 : ∀ k < W.length, (As k).d ≠ d := fun k hk e => by
      have := (Hs.new k hk).2.1
      rw [e, J1.d] at this; cases this
    walk_at "w"
    refine J2.put P hN (by decide +kernel) (by decide) fun H3 J3 e3 => ?_
    have hands3 : ∀ k < W.length, HandRep 125 H3 (As k) (startM W asker k) := fun k hk => by
      have q := hands k hk
      exact ⟨(e3 _ (Hp.ne' q.i J2.d (by simp))).trans q.i, (e3 _ (nd0 k hk)).trans q.d, (e3 _ (Hp.ne' q.a J2.d (by simp))).trans q.a, (e3 _ (Hp.ne' q.h J2.d (by simp))).trans q.h⟩
    walk_at "w"
    refine EvalW.list ?_
    walk_at "w"
    refine ⟨by simp, fun rw hrw => ?_⟩
    have J4 := J3.le (Hp.le_set (o := .list []) hrw)
    have r4 : (H3.set rw (.list [])) rw = some (.list []) := Hp.set_self ..
    have hands4 : ∀ k < W.length, HandRep 125 (H3.set rw (.list [])) (As k) (startM W asker k) := fun k hk => (hands3 k hk).fresh hrw
    have na4 : ∀ k < W.length, (As k).a ≠ rw := fun k hk => Hp.ne (hands3 k hk).a hrw
    have hrw0 : H rw = none := J3.old hrw
    generalize H3.set rw (.list []) = H4 at J4 r4 hands4
    walk_at "w"
    refine J4.put P hN (by decide +kernel) (by decide) fun H5 J5 e5 => ?_
    have r5 : H5 rw = some (.list []) := (e5 _ (Hp.ne' r4 J4.d (by simp))).trans r4
    have hands5 : ∀ k < W.length, HandRep 125 H5 (As k) (startM W asker k) := fun k hk => by
      have q := hands4 k hk
      exact ⟨(e5 _ (Hp.ne' q.i J4.d (by simp))).trans q.i, (e5 _ (nd0 k hk)).trans q.d, (e5 _ (Hp.ne' q.a J4.d (by simp))).trans q.a, (e5 _ (Hp.ne' q.h J4.d (by simp))).trans q.h⟩
    walk_at "w"
    refine J5.put P hN (by decide +kernel) (by decide) fun H6 J6 e6 => ?_
    have r6 : H6 rw = some (.list []) := (e6 _ (Hp.ne' r5 J5.d (by simp))).trans r5
    have hands6 : ∀ k < W.length, HandRep 125 H6 (As k) (startM W asker k) := fun k hk => by
      have q := hands5 k hk
      exact ⟨(e6 _ (Hp.ne' q.i J5.d (by simp))).trans q.i, (e6 _ (nd0 k hk)).trans q.d, (e6 _ (Hp.ne' q.a J5.d (by simp))).trans q.a, (e6 _ (Hp.ne' q.h J5.d (by simp))).trans q.h⟩
    have Rp : NetRep 125 233 H6 ⟨x, d, rw⟩ As W.length asker ⟨startM W asker, [], 0⟩ := J6.net (H1 := H) (by with_unfolding_all rfl) rfl r6 hands6 Hs.sd nd0 na4
    have Rj := Rp.hands asker ha
    have old : ∀ b o, H b = some o → b ≠ d → H6 b = some o := J6.fr
    have foot : ∀ b, NFoot ⟨x, d, rw⟩ As W.length b → b = d ∨ H b = none := fun b hb => by
      have z : ∀ q, H1 q = none → H q = none := fun q hq => J1.old hq
      rcases hb with h | h | ⟨k, hk, h | h | h⟩
      · exact .inl h
      · rw [h]; exact .inr hrw0
      · rw [h]; exact .inr (z _ (Hs.new k hk).2.1)
      · rw [h]; exact .inr (z _ (Hs.new k hk).2.2.1)
      · rw [h]; exact .inr (z _ (Hs.new k hk).2.2.2)
    clear J0 J1 J2 J3 J4 J5 hands hands3 hands4 hands5 hands6
    walk_at "w"
    refine ⟨_, Rp.meth P hN (f := 169) (by with_unfolding_all rfl) (by kernel_rfl) (by kernel_rfl), Plainly.ofS P.X rfl, ?_⟩
    walk_at "w"
    refine Rp.get P hN (by decide +kernel) (by with_unfolding_all rfl) rfl ?_
    walk_at "w"
    refine SubW.list rfl (by omega) (by omega) (u := .ref (As asker).i) (by simpa using hrefs_get ha) ?_
    walk_at "w"
    refine ⟨_, Rj.meth P hc (f := 103) (by with_unfolding_all rfl) (by kernel_rfl) (by kernel_rfl), Plainly.ofS P.X rfl, ?_⟩
    walk_at "w"
    have hoth : (startM W asker asker).others.length ≤ 100 := by
      have hm : W.getD asker none ∈ W := by simp [List.getD_eq_getElem?_getD, ha]
      have := hW3 _ hm
      unfold startM initM HandM.others
      dsimp only
      split
      · exact Nat.zero_le _
      · rename_i b l e
        rw [e] at this; exact this.2.2.2
    refine (begin_ok P _).call ⟨As asker, _, rfl, Rj, by show (startM W asker asker).others.length ≤ 400; omega, ?_⟩
    intro H7 y R7 y7 n7 f7
    have Rp7 := Rp.hand ha R7 f7
    have bz := begin_sizes (startM W asker asker)
    walk_at "w"
    refine (put_ok P _).call ⟨⟨x, d, rw⟩, As, W.length, asker, _, y, _, rfl, Rp7, y7, (fun q => by rw [q, r6] at n7; cases n7), ?_, ?_⟩
    · have := bz.2.2
      show 0 + (beginM (startM W asker asker)).2.length ≤ 45000
      omega
    intro H8 Rp8 e8
    walk_at "w"
    refine ⟨.none, H8, Fz.refl, hQ H8 ⟨x, d, rw⟩ As rfl rfl ?_ ?_ foot⟩
    · have : netM W asker = ⟨upd (startM W asker) asker (beginM (startM W asker asker)).1, [] ++ (beginM (startM W asker asker)).2, 0 + (beginM (startM W asker asker)).2.length⟩ := by simp [netM]
      rw [this]; exact Rp8
    · intro b o e q
      have nf : ¬ NFoot ⟨x, d, rw⟩ As W.length b := fun z => by
        rcases foot b z with z | z
        · exact q z
        · rw [e] at z; cases z
      rw [e8 b (fun z => nf (.inl z)) (fun z => nf (.inr (.inl z)))]
      exact NFrame.hand (N := ⟨x, d, rw⟩) ha f7 b o (old b o e q) nf

variable {C : Cx}

def sz8 (cell : Int) : Nat := if (cell / 7 % 4 == 1) = true then (1 + cell / 28 % 24).toNat else (1 + cell % 7).toNat
theorem sz8_ok (cell : Int) : 0 < sz8 cell ∧ sz8 cell ≤ 24 := by unfold sz8; split <;> omega
def W8a (ns : List Int) (s : Nat) : List Wt := (List.range s).map fun (k : Nat) => waitByL (mixG 48271 7727 999983 ns (2 + (k : Int)) k) s (cellV ns 1 / 120 % 3)
def W8b (more : Int) (s : Nat) (W : List Wt) : List Wt := if (more % 3 == 2) = true then W.set (more / 3 % (s : Int)).toNat none else W
def W8c (more : Int) (s : Nat) (W : List Wt) : List Wt := if (more / 3 % 6 == 1) = true then W.set (more / 18 % (s : Int)).toNat (some (more % 2 == 0, backL s more)) else W
def W8w (ns : List Int) : List Wt := W8c (cellV ns 1 / 120) (sz8 (cellV ns 0)) (W8b (cellV ns 1 / 120) (sz8 (cellV ns 0)) (W8a ns (sz8 (cellV ns 0))))
theorem wsok_set {W : List Wt} (h : WsOk W) (i : Nat) (w : Wt) (hw : WOk W.length w) : WsOk (W.set i w) := by
  obtain ⟨h1, h2, h3⟩ := h
  refine ⟨by simpa using h1, by simpa using h2, ?_⟩
  intro x hx
  rw [List.length_set]
  rcases List.mem_or_eq_of_mem_set hx with q | rfl
  · exact h3 x q
  · exact hw
theorem W8b_len (more s W) : (W8b more s W).length = W.length := by unfold W8b; split <;> simp
theorem W8c_len (more s W) : (W8c more s W).length = W.length := by unfold W8c; split <;> simp
theorem W8w_ok (ns : List Int) : WsOk (W8w ns) ∧ (W8w ns).length ≤ 24 ∧ ∃ i, ∀ a < (W8w ns).length, lenW (W8w ns) a ≤ 3 + if a = i then 24 else 0 := by
  obtain ⟨h0, h1⟩ := sz8_ok (cellV ns 0)
  unfold W8w
  generalize sz8 (cellV ns 0) = s at h0 h1
  generalize hm : cellV ns 1 / 120 = more
  have hl : (W8a ns s).length = s := by simp [W8a]
  have a1 : WsOk (W8a ns s) := by
    refine ⟨by omega, by omega, ?_⟩
    rw [hl]
    intro w hw
    obtain ⟨k, _, rfl⟩ := List.mem_map.mp hw
    exact waitByL_ok _ _ _ h0
  have a2 : ∀ a < (W8a ns s).length, lenW (W8a ns s) a ≤ 3 := fun a ha => by
    rw [hl] at ha
    have : (W8a ns s).getD a none = waitByL (mixG 48271 7727 999983 ns (2 + (a : Int)) a) s (cellV ns 1 / 120 % 3) := by
      simp [W8a, List.getD_eq_getElem?_getD, ha]
    unfold lenW
    rw [this]
    unfold waitByL
    generalize ((if cellV ns 1 / 120 % 3 = 0 then 5 else (if cellV ns 1 / 120 % 3 = 1 then 11 else 999983)) : Int) = md
    by_cases hz : mixG 48271 7727 999983 ns (2 + (a : Int)) a % md = 0
    · rw [if_pos hz]; exact Nat.zero_le _
    · rw [if_neg hz]
      refine Nat.le_trans (othersG_len _ _ _ _ _ _) ?_
      omega
  generalize W8a ns s = W at hl a1 a2
  have b1 : WsOk (W8b more s W) := by
    unfold W8b
    split
    · exact wsok_set a1 _ _ trivial
    · exact a1
  have b2 : ∀ a < (W8b more s W).length, lenW (W8b more s W) a ≤ 3 := by
    unfold W8b
    split
    · intro a ha
      have := lenW_set (w := none) (i := (more / 3 % (s : Int)).toNat) (n := 0) (fun b l e => by cases e) a2 a ha
      split at this <;> omega
    · exact a2
  have hl2 := W8b_len more s W
  generalize W8b more s W = W' at hl2 b1 b2
  refine ⟨?_, by rw [W8c_len]; omega, (more / 18 % (s : Int)).toNat, ?_⟩
  · unfold W8c
    split
    · exact wsok_set b1 _ _ (by rw [hl2, hl]; exact backL_ok _ _ _ h0 (by omega))
    · exact b1
  · unfold W8c
    split
    · exact lenW_set (n := 24) (fun b l e => by cases e; simp [backL]; omega) b2
    · intro a ha
      have := b2 a ha
      omega
def S_waits : SpecT := fun args Q R H => ∃ ns : List Int, args = [.lst (ns.map .int)] ∧ ns.length ≤ 100 ∧ Q (.lst ((W8w ns).map wv)) H

set_option maxHeartbeats 4000000 in
theorem waits_ok (P : PCx C (K8x C)) (k : Nat) : FnOK C (k + 3) (.ref 263) S_waits := by
  refine FnOK.ofS (K := K8x C) [Str.ofString "_law_script"] P.X P.lim rfl rfl (by kernel_rfl) ?_ (by kernel_rfl) (by kernel_rfl) ?_
  · intro vals h
    rcases vals with _ | ⟨a, _ | ⟨b, t⟩⟩ <;> simp at h
    rfl
  · rintro args Q R H ⟨ns, rfl, hn, hQ⟩
    refine ⟨rfl, fun L => ?_⟩
    obtain ⟨hs0, hs1⟩ := sz8_ok (cellV ns 0)
    walk_at "w"
    refine (cell_ok P _).call ⟨ns, 0, rfl, by omega, hn, ?_⟩
    unfold W8w at hQ
    obtain ⟨s, hsd⟩ : ∃ s, s = sz8 (cellV ns 0) := ⟨_, rfl⟩
    rw [← hsd] at hQ hs0 hs1
    generalize cellV ns 0 = cell at hsd ⊢
    refine Cont.next (ExecsW.cons ?_)
    walk_at "v"
    walk_at "v"
    walk_at "v"
    walk_at "v"
    walk_at "v"
    walk_at "v"
    walk_at "v"
    walk_at "v"
    refine Cont.next (ExecsW.seq (fun l H' => H' = H ∧ l = [(Str.ofString "_law_script", V.lst (ns.map .int)), (Str.ofString "_law_size", V.int s)]) ?_ ?_)
    · unfold sz8 at hsd
      walk_at "w"
      refine ite_w (fun h => ?_) fun h => ?_
      · rw [if_pos h] at hsd
        walk_at "w"
        refine ⟨_, ⟨rfl, rfl⟩, rfl, ?_, trivial⟩
        show some (V.int _) = some (V.int _)
        rw [hsd, Int.toNat_of_nonneg (by omega)]
      · rw [if_neg (by rw [h]; decide)] at hsd
        walk_at "w"
        refine ⟨_, ⟨rfl, rfl⟩, rfl, ?_, trivial⟩
        show some (V.int _) = some (V.int _)
        rw [hsd, Int.toNat_of_nonneg (by omega)]
    clear hsd
    rintro l H0 ⟨rfl, rfl⟩
    walk_at "w"
    refine (cell_ok P _).call ⟨ns, 1, rfl, by omega, hn, ?_⟩
    walk_at "w"
    have hf : cellV ns 1 / 120 % 3 = 0 ∨ cellV ns 1 / 120 % 3 = 1 ∨ cellV ns 1 / 120 % 3 = 2 := by omega
    refine ExecW.assign_compO (gN fun (k : Nat) => some (wv (waitByL (mixG 48271 7727 999983 ns (2 + (k : Int)) k) s (cellV ns 1 / 120 % 3)))) rfl rfl P.hd rfl ?_
    refine IterE.range (P.blt (by kernel_rfl) (by boot_fast)) rfl ?_
    walk_at "w"
    refine ⟨_, rfl, by omega, by omega, ?_⟩
    simp only [Int.toNat_natCast]
    refine ⟨by rw [ints_length]; omega, fun _ _ => trivial, ?_, fun a ha => ?_⟩
    · intro v hv H' hle
      rw [rangeV_nv] at hv
      obtain ⟨x, hx, rfl⟩ := List.mem_map.mp hv
      refine PureStep.map rfl fun L' => ?_
      simp only [nv]
      walk_at "w"
      refine (mixed_ok P _).call ⟨ns, _, _, rfl, by omega, hn, ?_⟩
      walk_at "w"
      refine (wait_by_ok P _).call ⟨_, _, s, rfl, (mixG_range _ _ _ (by decide) ..).1, hs0, by omega, hf, ?_⟩
      exact ⟨rfl, by rw [gN_nv]⟩
    rw [rangeV_nv, fm_gN, fm_map]
    rw [show (List.range s).map (fun (k : Nat) => wv (waitByL (mixG 48271 7727 999983 ns (2 + (k : Int)) k) s (cellV ns 1 / 120 % 3))) = (W8a ns s).map wv by unfold W8a; rw [List.map_map]; rfl]
    have hWl : (W8a ns s).length = s := by simp [W8a]
    generalize W8a ns s = W at hWl hQ
    clear hf
    generalize cellV ns 1 / 120 = wide at hQ
    refine Cont.next (ExecsW.seq (fun l H' => H' a = some (.list ((W8b wide s W).map wv)) ∧ Hp.le H0 H' ∧ l = [(Str.ofString "_law_size", V.int s), (Str.ofString "_law_more", V.int wide), (Str.ofString "_law_waits_here", V.ref a)]) ?_ ?_)
    · walk_at "w"
      refine ite_w (fun h => ?_) fun h => ?_
      · walk_at "w"
        have hr1 := Int.emod_nonneg (wide / 3) (b := (s : Int)) (by omega)
        have hr2 := Int.emod_lt_of_pos (wide / 3) (b := (s : Int)) (by omega)
        refine SetW.list (Hp.set_self ..) hr1 (by simp only [List.length_map]; omega) (by simp only [List.length_map]; omega) ?_
        walk_at "w"
        refine ⟨_, ⟨by rw [Hp.set_self]; unfold W8b; rw [if_pos h, List.map_set]; rfl, Hp.le_set' (Hp.le_set ha) ha, rfl⟩, rfl, rfl, rfl, trivial⟩
      · walk_at "w"
        exact ⟨_, ⟨by rw [Hp.set_self]; unfold W8b; rw [if_neg (by rw [h]; decide)], Hp.le_set ha, rfl⟩, rfl, rfl, rfl, trivial⟩
    rintro l H1 ⟨k1, k2, rfl⟩
    have hWl2 := W8b_len wide s W
    rw [hWl] at hWl2
    generalize W8b wide s W = W' at k1 hWl2 hQ
    refine ExecsW.seq (fun l H' => H' a = some (.list ((W8c wide s W').map wv)) ∧ Hp.le H0 H' ∧ l = [(Str.ofString "_law_waits_here", V.ref a)]) ?_ ?_
    · walk_at "w"
      refine ite_w (fun h => ?_) fun h => ?_
      · walk_at "w"
        refine EvalW.list_fz ?_
        walk_at "w"
        refine ⟨by simp, ?_⟩
        walk_at "w"
        refine SubW.list rfl (by omega) (by omega) (u := .str (Str.ofString (if (wide % 2 == 0) = true then "all" else "any"))) ?_ ?_
        · have : wide % 2 = 0 ∨ wide % 2 = 1 := by omega
          rcases this with e | e <;> rw [e] <;> rfl
        walk_at "w"
        refine EvalW.compP (gN fun (k : Nat) => some (nv (((s : Int) + wide - (k : Int)) % (s : Int)).toNat)) rfl P.hd rfl ?_
        refine IterE.range (P.blt (by kernel_rfl) (by boot_fast)) rfl ?_
        walk_at "w"
        refine ⟨_, rfl, by omega, by omega, ?_⟩
        simp only [Int.toNat_natCast]
        refine ⟨by rw [ints_length]; omega, fun _ _ => trivial, ?_, ?_⟩
        · intro v hv H' hle
          rw [rangeV_nv] at hv
          obtain ⟨x, hx, rfl⟩ := List.mem_map.mp hv
          refine PureStep.map rfl fun L' => ?_
          simp only [nv]
          walk_at "w"
          refine ⟨rfl, ?_⟩
          rw [gN_nv]
          show some (V.int _) = some (V.int _)
          rw [Int.toNat_of_nonneg (Int.emod_nonneg _ (by omega))]
        rw [rangeV_nv, fm_gN, fm_map]
        rw [show (List.range s).map (fun (k : Nat) => nv (((s : Int) + wide - (k : Int)) % (s : Int)).toNat) = (backL s wide).map nv by unfold backL; rw [List.map_map]; rfl]
        walk_at "w"
        refine ⟨?_, by simp⟩
        walk_at "w"
        have hr1 := Int.emod_nonneg (wide / 18) (b := (s : Int)) (by omega)
        have hr2 := Int.emod_lt_of_pos (wide / 18) (b := (s : Int)) (by omega)
        refine SetW.list k1 hr1 (by simp only [List.length_map]; omega) (by simp only [List.length_map]; omega) ?_
        walk_at "w"
        refine ⟨_, ⟨by rw [Hp.set_self]; unfold W8c; rw [if_pos h, List.map_set]; rfl, Hp.le_set' k2 ha, rfl⟩, rfl, trivial⟩
      · walk_at "w"
        exact ⟨_, ⟨by unfold W8c; rw [if_neg (by rw [h]; decide)]; exact k1, k2, rfl⟩, rfl, trivial⟩
    rintro l H2 ⟨k3, k4, rfl⟩
    walk_at "w"
    exact RetQ.fz (fz_own k3 k4 ha) hQ
variable {C : Cx}

def bl (n : Nat) (f : Nat → Bool) : List V := (List.range n).map fun k => V.bool (f k)
theorem bl_len (n f) : (bl n f).length = n := by simp [bl]
theorem bl_get {n : Nat} {f : Nat → Bool} {j : Nat} (hj : j < n) : (bl n f)[j]? = some (.bool (f j)) := by simp [bl, hj]
theorem bl_set (n : Nat) (f : Nat → Bool) (i : Nat) (b : Bool) : (bl n f).set i (.bool b) = bl n (upd f i b) := by
  refine List.ext_getElem? fun j => ?_
  by_cases hj : j < n
  · rw [bl_get hj]
    by_cases q : i = j
    · subst q
      rw [List.getElem?_set_self (by rw [bl_len]; exact hj)]
      simp [upd]
    · rw [List.getElem?_set_ne q, bl_get hj]
      have : ¬ j = i := fun e => q e.symm
      simp [upd, this]
  · rw [List.getElem?_eq_none (by rw [List.length_set, bl_len]; omega), List.getElem?_eq_none (by rw [bl_len]; omega)]
theorem bl_init (W : List Wt) : (W.map wv).filterMap (fun v => some (V.bool v.isNone)) = bl W.length (initF W) := by
  rw [List.filterMap_eq_map', List.map_map]
  refine List.ext_getElem? fun j => ?_
  by_cases hj : j < W.length
  · rw [bl_get hj]
    simp only [List.getElem?_map, List.getElem?_eq_getElem hj, Option.map_some, Function.comp_apply]
    unfold initF
    rw [List.getD_eq_getElem?_getD, List.getElem?_eq_getElem hj, Option.getD_some]
    rcases W[j] with _ | ⟨b, l⟩ <;> rfl
  · rw [List.getElem?_eq_none (by simp; omega), List.getElem?_eq_none (by rw [bl_len]; omega)]
theorem stpF_true {W : List Wt} {f : Nat → Bool} {i : Nat} (h : f i = true) : stpF W f i = f := by
  funext x
  unfold stpF upd
  split
  · rename_i q; subst q; rw [h]; rfl
  · rfl
theorem stpF_false {W : List Wt} {f : Nat → Bool} {i : Nat} (h : f i = false) : stpF W f i = upd f i (valB W f i) := by
  unfold stpF; rw [h]; rfl
def S_freed8 : SpecT := fun args Q R H => ∃ W : List Wt, args = [.lst (W.map wv)] ∧ WsOk W ∧ Q (.lst (bl W.length (freeF W))) H

set_option maxHeartbeats 4000000 in
theorem freed8_ok (P : PCx C (K8x C)) (k : Nat) : FnOK C (k + 3) (.ref 268) S_freed8 := by
  refine FnOK.ofS (K := K8x C) [Str.ofString "_law_waits_here"] P.X P.lim rfl rfl (by kernel_rfl) ?_ (by kernel_rfl) (by kernel_rfl) ?_
  · intro vals h
    rcases vals with _ | ⟨a, _ | ⟨b, t⟩⟩ <;> simp at h
    rfl
  · rintro args Q R H ⟨W, rfl, hWok, hQ⟩
    refine ⟨rfl, fun L => ?_⟩
    have ⟨hW1, hW2, hW3⟩ := hWok
    walk_at "w"
    refine EvalW.compO (fun v => some (V.bool v.isNone)) rfl P.hd rfl ?_
    refine IterE.list ?_
    walk_at "w"
    refine ⟨_, rfl, by simp; omega, fun _ _ => rfl, ?_, fun a ha => ?_⟩
    · intro v hv H' hle
      obtain ⟨w, hw, rfl⟩ := List.mem_map.mp hv
      refine PureStep.map rfl fun L' => ?_
      walk_at "w"
      refine CmpW.isNone (by rcases w with _ | ⟨b, l⟩ <;> trivial) ?_
      exact ⟨rfl, rfl⟩
    rw [bl_init]
    have ga : (H.set a (.list (bl W.length (initF W)))) a = some (.list (bl W.length (initF W))) := Hp.set_self ..
    have le0 : Hp.le H (H.set a (.list (bl W.length (initF W)))) := Hp.le_set ha
    generalize H.set a (.list (bl W.length (initF W))) = H1 at ga le0
    walk_at "w"
    refine ExecW.for_in false P.hd (fun e => by cases e) ?_
    refine IterE.range (P.blt (by kernel_rfl) (by boot_fast)) rfl ?_
    walk_at "w"
    refine CallW.len rfl (by simp; omega) ?_
    rw [List.length_map]
    refine ⟨_, rfl, by omega, by omega, ?_⟩
    rw [Int.toNat_natCast]
    refine ⟨fun r l H' => ∃ t, r = (rangeV W.length).drop t ∧ t ≤ W.length ∧ H' a = some (.list (bl W.length (turnF W t))) ∧ Hp.le H H' ∧ l = [(Str.ofString "_law_waits_here", V.lst (W.map wv)), (Str.ofString "_law_free", V.ref a)],
      ⟨_, ⟨0, rfl, by omega, ga, le0, rfl⟩, rfl, rfl, trivial⟩, ?_, ?_, ?_⟩
    · rintro r l H' _; trivial
    · clear ga le0
      rintro v r l H' ⟨t, er, ht, ga, le0, rfl⟩
      obtain ⟨hv, hr, hi⟩ := drop_cons er
      rw [ints_length] at hi
      rw [rangeV_nv, List.getElem?_map, List.getElem?_range hi] at hv
      cases hv
      refine AssignW.name (Or.inl rfl) ?_
      simp only [nv]
      walk_at "w"
      refine ExecW.for_in false P.hd (fun e => by cases e) ?_
      refine IterE.range (P.blt (by kernel_rfl) (by boot_fast)) rfl ?_
      walk_at "w"
      refine CallW.len rfl (by simp; omega) ?_
      rw [List.length_map]
      refine ⟨_, rfl, by omega, by omega, ?_⟩
      rw [Int.toNat_natCast]
      refine ⟨fun r l H' => ∃ i, r = (rangeV W.length).drop i ∧ i ≤ W.length ∧ H' a = some (.list (bl W.length (rndF W (turnF W t) i))) ∧ Hp.le H H' ∧ l = [(Str.ofString "_law_waits_here", V.lst (W.map wv)), (Str.ofString "_law_free", V.ref a)],
        ⟨_, ⟨0, rfl, by omega, ga, le0, rfl⟩, rfl, rfl, trivial⟩, ?_, ?_, ?_⟩
      · rintro r l H' _; trivial
      · clear ga le0
        rintro v r' l H' ⟨i, er', hi', ga, le0, rfl⟩
        obtain ⟨hv, hr', hi2⟩ := drop_cons er'
        rw [ints_length] at hi2
        rw [rangeV_nv, List.getElem?_map, List.getElem?_range hi2] at hv
        cases hv
        have hnn : rndF W (turnF W t) i i = false → W.getD i none ≠ none := fun h e => by
          have : rndF W (turnF W t) i i = true := rndF_mono (turnF_init (by unfold initF; rw [e]; rfl) t) i
          rw [this] at h; cases h
        have hstep : rndF W (turnF W t) (i + 1) = stpF W (rndF W (turnF W t) i) i := rfl
        generalize rndF W (turnF W t) i = f at ga hnn hstep
        refine AssignW.name (Or.inl rfl) ?_
        simp only [nv]
        walk_at "w"
        refine SubW.list (lview_ref ga) (by omega) (by omega) (u := .bool (f i)) (by simpa using bl_get hi2) ?_
        walk_at "w"
        refine ite_w (fun h => ?_) fun h => ?_
        · have hf : f i = false := by simpa using h
          obtain ⟨⟨b, l⟩, ew⟩ : ∃ q, W.getD i none = some q := Option.ne_none_iff_exists'.mp (hnn hf)
          have hg : (W.map wv)[((i : Nat) : Int).toNat]? = some (wv (some (b, l))) := by
            rw [← ew]; simp [hi2]
          have hw := hW3 (W.getD i none) (by simp [List.getD_eq_getElem?_getD, hi2])
          rw [ew] at hw
          obtain ⟨w1, w2, w3, w4⟩ := hw
          walk_at "w"
          refine ExecW.assign_compP (gN fun x => if f x = true then some (nv x) else none) rfl rfl P.hd rfl ?_
          refine IterE.list ?_
          walk_at "w"
          refine SubW.list rfl (by omega) (by omega) hg ?_
          simp only [wv]
          walk_at "w"
          refine SubW.tup (by decide) (by decide) rfl ?_
          refine ⟨_, rfl, by simp; omega, fun _ _ => rfl, ?_, ?_⟩
          · intro v hv H2 hle
            obtain ⟨x, hx, rfl⟩ := List.mem_map.mp hv
            have hxl := w3 x hx
            refine PureStep.filt rfl fun L' => ?_
            simp only [nv]
            walk_at "w"
            refine SubW.list (lview_le hle (lview_ref ga)) (by omega) (by omega) (u := .bool (f x)) (by simpa using bl_get hxl) ?_
            walk_at "w"
            refine ⟨rfl, ite_w (fun h1 => ?_) fun h1 => ?_⟩
            · walk_at "w"
              refine ⟨rfl, ?_⟩
              rw [gN_nv, h1]; rfl
            · rw [gN_nv, h1]; rfl
          rw [fm_gN, fm_filter]
          have hv0 : valB W f i = (!(l.filter f).isEmpty && (!b || decide ((l.filter f).length = l.length))) := by unfold valB; rw [ew]
          have hfl := List.length_filter_le f l
          have fin : ∀ v : Bool, v = valB W f i → (H'.set a (.list ((bl W.length f).set ((i : Nat) : Int).toNat (.bool v)))) a = some (.list (bl W.length (rndF W (turnF W t) (i + 1)))) := fun v ev => by
            rw [Hp.set_self, Int.toNat_natCast, bl_set, hstep, stpF_false hf, ev]
          have ene : (l.filter f != []) = !(l.filter f).isEmpty := by cases l.filter f <;> rfl
          walk_at "w"
          refine CallW.len rfl (by simp; omega) ?_
          rw [List.length_map]
          walk_at "w"
          refine SubW.list rfl (by omega) (by omega) hg ?_
          simp only [wv]
          walk_at "w"
          refine SubW.tup (by decide) (by decide) rfl ?_
          walk_at "w"
          refine CallW.len rfl (by simp; omega) ?_
          rw [List.length_map]
          walk_at "w"
          refine EvalW.list_fz ?_
          walk_at "w"
          refine ⟨by simp, ?_⟩
          refine CmpW.neN (l := l.filter f) (l' := []) rfl rfl ?_
          walk_at "w"
          rw [ene]
          refine ite_w (fun hc => ?_) fun hc => ?_
          · walk_at "w"
            refine SubW.list rfl (by omega) (by omega) hg ?_
            simp only [wv]
            walk_at "w"
            refine SubW.tup (by decide) (by decide) rfl ?_
            walk_at "w"
            cases b with
            | false =>
              refine ite_t (by with_unfolding_all rfl) ?_
              walk_at "w"
              refine SetW.list ga (by omega) (by rw [bl_len]; omega) (by rw [bl_len]; omega) ?_
              walk_at "w"
              exact ⟨_, ⟨i + 1, hr', by omega, fin _ (by rw [hv0, hc]; rfl), Hp.le_set' le0 ha, rfl⟩, rfl, rfl, trivial⟩
            | true =>
              refine ite_f (by with_unfolding_all rfl) ?_
              walk_at "w"
              refine SetW.list ga (by omega) (by rw [bl_len]; omega) (by rw [bl_len]; omega) ?_
              walk_at "w"
              refine ⟨_, ⟨i + 1, hr', by omega, fin _ ?_, Hp.le_set' le0 ha, rfl⟩, rfl, rfl, trivial⟩
              rw [hv0, hc]
              rw [Bool.eq_iff_iff, beq_iff_eq]
              simp only [Bool.true_and, Bool.not_true, Bool.false_or, decide_eq_true_eq]
              omega
          · walk_at "w"
            refine SetW.list ga (by omega) (by rw [bl_len]; omega) (by rw [bl_len]; omega) ?_
            walk_at "w"
            exact ⟨_, ⟨i + 1, hr', by omega, fin _ (by rw [hv0, hc]; rfl), Hp.le_set' le0 ha, rfl⟩, rfl, rfl, trivial⟩
        · have hf : f i = true := by simpa using h
          walk_at "w"
          exact ⟨_, ⟨i + 1, hr', by omega, by rw [hstep, stpF_true hf]; exact ga, le0, rfl⟩, rfl, rfl, trivial⟩
      · rintro l H2 ⟨i, er', hi', ga, le0, rfl⟩
        have hle := drop_nil er'
        rw [ints_length] at hle
        have hi' : i = W.length := by omega
        subst hi'
        walk_at "w"
        exact ⟨_, ⟨t + 1, hr, by omega, ga, le0, rfl⟩, rfl, rfl, trivial⟩
    · rintro l H2 ⟨t, er, ht, ga, le0, rfl⟩
      have hle := drop_nil er
      rw [ints_length] at hle
      have ht : t = W.length := by omega
      subst ht
      walk_at "w"
      exact RetQ.fz (fz_own ga le0 ha) hQ

def S_asking8 : SpecT := fun args Q R H => ∃ (W : List Wt) (asker : Nat), args = [.lst (W.map wv), nv asker] ∧ WsOk W ∧ asker < W.length ∧ sumN W.length (fun a => ((lenW W a : Nat) : Int)) ≤ 96 ∧ ∀ fd, D8 W asker fd [] → Q (.lst (((List.range W.length).filter fun x => decide (x ∈ fd)).map nv)) H
theorem leftN_sum (W : List Wt) : ∀ n, ((leftN W [] n : Nat) : Int) = sumN n (fun a => ((lenW W a : Nat) : Int))
  | 0 => rfl
  | n + 1 => by simp only [leftN, sumN, ← leftN_sum W n]; simp
theorem rch_lt {W : List Wt} {asker : Nat} (hW : WsOk W) (ha : asker < W.length) {h : Nat} (R : Rch W asker h) : h < W.length := by
  induction R with
  | root => exact ha
  | @step r x b l h e hx ih => exact hW.lts (W.getD r none) (by simp [List.getD_eq_getElem?_getD, ih]) b l e x hx

set_option maxHeartbeats 4000000 in
theorem asking8_ok (P : PCx C (K8x C)) (k : Nat) : FnOK C (k + 3) (.ref 275) S_asking8 := by
  refine FnOK.ofS (K := K8x C) [Str.ofString "_law_waits_here", Str.ofString "_law_asker"] P.X P.lim rfl rfl (by kernel_rfl) ?_ (by kernel_rfl) (by kernel_rfl) ?_
  · intro vals h
    rcases vals with _ | ⟨a, _ | ⟨b, _ | ⟨c, t⟩⟩⟩ <;> simp at h
    rfl
  · rintro args Q R H ⟨W, asker, rfl, hWok, has, hsum, hQ⟩
    refine ⟨rfl, fun L => ?_⟩
    have ⟨hW1, hW2, hW3⟩ := hWok
    have hl0 := leftN_sum W W.length
    simp only [nv]
    walk_at "w"
    refine EvalW.list ?_
    walk_at "w"
    refine ⟨by simp, fun a ha => ?_⟩
    have ga : (H.set a (.list [])) a = some (.list (([] : List Nat).map nv)) := Hp.set_self ..
    have le0 : Hp.le H (H.set a (.list [])) := Hp.le_set ha
    generalize H.set a (.list []) = H1 at ga le0
    walk_at "w"
    refine EvalW.list ?_
    walk_at "w"
    refine ⟨by simp, fun c hc => ?_⟩
    have hac : a ≠ c := Hp.ne ga hc
    have hc0 : H c = none := by
      cases e : H c with
      | none => rfl
      | some o => rw [le0 _ _ e] at hc; cases hc
    have gc : (H1.set c (.list [V.int ((asker : Nat) : Int)])) c = some (.list ([asker].map nv)) := Hp.set_self ..
    have ga1 : (H1.set c (.list [V.int ((asker : Nat) : Int)])) a = some (.list (([] : List Nat).map nv)) := (Hp.set_ne hac).trans ga
    have le1 : Hp.le H (H1.set c (.list [V.int ((asker : Nat) : Int)])) := Hp.le_set' le0 hc0
    generalize H1.set c (.list [V.int ((asker : Nat) : Int)]) = H2 at gc ga1 le1
    walk_at "w"
    refine ExecW.while_in (fun m l H' => ∃ fd wa, D8 W asker fd wa ∧ m = wa.length + leftN W fd W.length ∧ m ≤ 97 ∧ H' a = some (.list (fd.map nv)) ∧ H' c = some (.list (wa.map nv)) ∧ Hp.le H H' ∧ l = [(Str.ofString "_law_waits_here", V.lst (W.map wv)), (Str.ofString "_law_found", V.ref a), (Str.ofString "_law_waiting", V.ref c)]) (1 + leftN W [] W.length) ?_ ?_
    · exact ⟨_, ⟨[], [asker], D8.start, rfl, by omega, ga1, gc, le1, rfl⟩, rfl, rfl, rfl, trivial⟩
    · clear ga ga1 gc le0 le1
      rintro m l H' ⟨fd, wa, D, hm, hm97, ga, gc, le0, rfl⟩
      have flt : ∀ x ∈ fd, x < W.length := fun x hx => rch_lt hWok has (D.fo x hx).1
      have fl : fd.length ≤ W.length := nodup_le _ _ D.nd flt
      walk_at "w"
      refine TruthW.list (lview_ref gc) (by simp; omega) ?_
      refine ite_w (fun h => ?_) fun h => ?_
      · have hne : wa ≠ [] := fun e => by rw [e] at h; cases h
        obtain ⟨ws, hh, rfl⟩ : ∃ ws x, wa = ws ++ [x] := ⟨_, _, (List.dropLast_concat_getLast hne).symm⟩
        have hhl := rch_lt hWok has (D.wt hh (by simp))
        rw [List.length_append, List.length_singleton] at hm
        walk_at "w"
        refine ⟨_, MethIs.pop gc, Plainly.builtin _, ?_⟩
        walk_at "w"
        refine CallW.popLast gc (u := nv hh) (by simp) (by simp; omega) ?_
        rw [show (List.map nv (ws ++ [hh])).eraseIdx ((List.map nv (ws ++ [hh])).length - 1) = ws.map nv by simp [List.eraseIdx_append_of_length_le]]
        have gc1 : (H'.set c (.list (ws.map nv))) c = some (.list (ws.map nv)) := Hp.set_self ..
        have ga1 : (H'.set c (.list (ws.map nv))) a = some (.list (fd.map nv)) := (Hp.set_ne hac).trans ga
        have le1 : Hp.le H (H'.set c (.list (ws.map nv))) := Hp.le_set' le0 hc0
        generalize H'.set c (.list (ws.map nv)) = H3 at gc1 ga1 le1
        have hg : (W.map wv)[((hh : Nat) : Int).toNat]? = some (wv (W.getD hh none)) := by simp [hhl]
        simp only [nv]
        walk_at "w"
        refine SubW.list rfl (by omega) (by omega) hg ?_
        walk_at "w"
        refine CmpW.isNotNone (by rcases W.getD hh none with _ | ⟨b, l⟩ <;> trivial) ?_
        walk_at "w"
        cases ew : W.getD hh none with
        | none =>
          refine ite_f rfl ?_
          refine ite_f rfl ?_
          walk_at "w"
          exact ⟨_, ⟨ws.length + leftN W fd W.length, by omega, fd, ws, D.skip (.inl ew), rfl, by omega, ga1, gc1, le1, rfl⟩, rfl, rfl, rfl, trivial⟩
        | some q =>
          obtain ⟨b, l⟩ := q
          have hw := hW3 (W.getD hh none) (by simp [List.getD_eq_getElem?_getD, hhl])
          rw [ew] at hw hg
          obtain ⟨w1, w2, w3, w4⟩ := hw
          refine ite_t rfl ?_
          walk_at "w"
          refine CmpW.notInN (l := fd) (lview_ref ga1) (by omega) ?_
          rw [Int.toNat_natCast]
          walk_at "w"
          refine ite_w (fun hn => ?_) fun hn => ?_
          · have hn : hh ∉ fd := by simpa using hn
            have hadd := leftN_add (W := W) hn W.length
            rw [if_pos hhl] at hadd
            have hlw : lenW W hh = l.length := by unfold lenW; rw [ew]
            walk_at "w"
            refine ite_t rfl ?_
            walk_at "w"
            refine ⟨_, MethIs.append ga1, Plainly.builtin _, ?_⟩
            walk_at "w"
            refine CallW.append ga1 (by simp; omega) ?_
            have ga2 : (H3.set a (.list (fd.map nv ++ [V.int ((hh : Nat) : Int)]))) a = some (.list ((fd ++ [hh]).map nv)) := by rw [Hp.set_self]; simp [nv]
            have gc2 : (H3.set a (.list (fd.map nv ++ [V.int ((hh : Nat) : Int)]))) c = some (.list (ws.map nv)) := (Hp.set_ne hac.symm).trans gc1
            have le2 : Hp.le H (H3.set a (.list (fd.map nv ++ [V.int ((hh : Nat) : Int)]))) := Hp.le_set' le1 ha
            generalize H3.set a (.list (fd.map nv ++ [V.int ((hh : Nat) : Int)])) = H4 at ga2 gc2 le2
            walk_at "w"
            refine ⟨_, MethIs.extend gc2, Plainly.builtin _, ?_⟩
            walk_at "w"
            refine SubW.list rfl (by omega) (by omega) hg ?_
            simp only [wv]
            walk_at "w"
            refine SubW.tup (by decide) (by decide) rfl ?_
            walk_at "w"
            refine CallW.extendF gc2 rfl (by simp; omega) ?_
            walk_at "w"
            refine ⟨_, ⟨(ws ++ l).length + leftN W (fd ++ [hh]) W.length, ?_, fd ++ [hh], ws ++ l, D.take ew hn, rfl, ?_, ?_, ?_, Hp.le_set' le2 hc0, rfl⟩, rfl, rfl, rfl, trivial⟩
            · rw [List.length_append]; omega
            · rw [List.length_append]; omega
            · exact (Hp.set_ne hac).trans ga2
            · rw [Hp.set_self, List.map_append]
          · have hn : hh ∈ fd := by simpa using hn
            refine ite_f rfl ?_
            walk_at "w"
            exact ⟨_, ⟨ws.length + leftN W fd W.length, by omega, fd, ws, D.skip (.inr hn), rfl, by omega, ga1, gc1, le1, rfl⟩, rfl, rfl, rfl, trivial⟩
      · have hw0 : wa = [] := by cases wa with
          | nil => rfl
          | cons x l => cases h
        subst hw0
        walk_at "w"
        refine CallW.sortedN (lview_ref ga) (by omega) fun so p1 p2 => ?_
        walk_at "w"
        rw [sorted_eq p1 p2 D.nd flt]
        exact RetQ.fz (Fz.of (D := fun _ => False) (.refl _) le0 (fun _ hb => hb.elim)) (hQ fd D)
variable {C : Cx}
def S_end8 : SpecT := fun args Q R H => ∃ (W : List Wt) (N : NAd) (As : Nat → HA) (asker : Nat) (M : NetM) (S Cm : List Lt), args = [.lst (W.map wv), .ref N.i, nv asker] ∧ WsOk W ∧ sumN W.length (fun a => ((lenW W a : Nat) : Int)) ≤ 96 ∧ NetRep 125 233 H N As W.length asker M ∧ K8 W asker M S Cm ∧ M.row = [] ∧ ∀ H', Q (.bool true) H'
theorem wsok_ne {W : List Wt} (hW : WsOk W) : ∀ h b l, W.getD h none = some (b, l) → l ≠ [] := fun h b l e => by
  by_cases q : h < W.length
  · have := hW.2.2 (W.getD h none) (by simp [List.getD_eq_getElem?_getD, q])
    rw [e] at this; exact this.1
  · rw [List.getD_eq_getElem?_getD, List.getElem?_eq_none (by omega)] at e; cases e

set_option maxHeartbeats 8000000 in
theorem end8_ok (P : PCx C (K8x C)) (k : Nat) : FnOK C (k + 4) (.ref 280) S_end8 := by
  have hc := handC C
  have hN := netC C
  refine FnOK.ofS (K := K8x C) [Str.ofString "_law_waits_here", Str.ofString "_law_net", Str.ofString "_law_asker"] P.X P.lim rfl rfl (by kernel_rfl) ?_ (by kernel_rfl) (by kernel_rfl) ?_
  · intro vals h
    rcases vals with _ | ⟨a, _ | ⟨b, _ | ⟨c, _ | ⟨d, t⟩⟩⟩⟩ <;> simp at h
    rfl
  · rintro args Q R H ⟨W, N, As, asker, M, S, Cm, rfl, hWok, hsum, Rp, K, hrow, hQ⟩
    refine ⟨rfl, fun L => ?_⟩
    have ⟨hW1, hW2, hW3⟩ := hWok
    have E : End8 W asker M := ⟨K.I, K.T, K.G, hrow⟩
    have hne := wsok_ne hWok
    have has := K.I.asks
    have hR0 : rungV (M.hands asker) = .bool (!(M.hands asker).freed) := by
      unfold rungV; rw [K.I.owed0 hrow asker has]; rfl
    have hlet := E.letters hne K.J K.hS
    have hal : (asL W.length M).length ≤ W.length := by
      have := List.length_filter_le (fun h => (M.hands h).has) (List.range W.length)
      simpa [asL] using this
    have hsl : (shL W.length M).length ≤ W.length := by
      have := List.length_filter_le (fun h => (M.hands h).has && !(M.hands h).freed) (List.range W.length)
      simpa [shL] using this
    simp only [nv]
    walk_at "w"
    refine (freed8_ok P _).call ⟨W, rfl, hWok, ?_⟩
    walk_at "w"
    refine (asking8_ok P _).call ⟨W, asker, rfl, hWok, K.I.asks, hsum, fun fd D => ?_⟩
    rw [E.asked D]
    clear D
    walk_at "w"
    refine ExecW.for_in false P.hd (fun e => by cases e) ?_
    refine IterE.list ?_
    walk_at "w"
    refine ⟨_, rfl, fun r l H' => ∃ i, r = ((asL W.length M).map nv).drop i ∧ i ≤ (asL W.length M).length ∧ H' = H ∧ l = [(Str.ofString "_law_waits_here", V.lst (W.map wv)), (Str.ofString "_law_net", V.ref N.i), (Str.ofString "_law_asker", V.int ((asker : Nat) : Int)), (Str.ofString "_law_free", V.lst (bl W.length (freeF W))), (Str.ofString "_law_asking_here", V.lst ((asL W.length M).map nv)), (Str.ofString "_law_letters", V.int (((asL W.length M).take i).map (tmL W)).sum)],
      ⟨_, ⟨0, rfl, Nat.zero_le _, rfl, rfl⟩, rfl, rfl, rfl, rfl, rfl, rfl, trivial⟩, ?_, ?_, ?_⟩
    · rintro r l H' _; rfl
    · rintro v r l H' ⟨i, er, hi, rfl, rfl⟩
      obtain ⟨hv, hr, hlt⟩ := drop_cons er
      rw [List.length_map] at hlt
      rw [List.getElem?_map, List.getElem?_eq_getElem hlt] at hv
      cases hv
      have hm : (asL W.length M)[i] ∈ asL W.length M := List.getElem_mem hlt
      have htk : ((((asL W.length M).take (i + 1)).map (tmL W)).sum : Int) = (((asL W.length M).take i).map (tmL W)).sum + tmL W (asL W.length M)[i] := by
        rw [List.take_add_one, List.getElem?_eq_getElem hlt, Option.toList_some, List.map_append, List.sum_append]; simp
      generalize (asL W.length M)[i] = h at hm htk
      obtain ⟨hh, hhas⟩ := List.mem_filter.mp hm
      have hh : h < W.length := by simpa using hh
      obtain ⟨Rh, hw0⟩ := (E.hasIff hh).mp hhas
      obtain ⟨⟨b, l⟩, ew⟩ : ∃ q, W.getD h none = some q := Option.ne_none_iff_exists'.mp hw0
      have hg : (W.map wv)[((h : Nat) : Int).toNat]? = some (wv (some (b, l))) := by
        rw [← ew]; simp [hh]
      have hw := hW3 (W.getD h none) (by simp [List.getD_eq_getElem?_getD, hh])
      rw [ew] at hw
      obtain ⟨w1, w2, w3, w4⟩ := hw
      have htm : tmL W h = 2 * ((l.length : Nat) : Int) + 2 * (((l.filter (freeF W)).length : Nat) : Int) := by unfold tmL; rw [ew]
      refine AssignW.name (Or.inl rfl) ?_
      simp only [nv]
      walk_at "w"
      refine SubW.list rfl (by omega) (by omega) hg ?_
      simp only [wv]
      walk_at "w"
      refine SubW.tup (by decide) (by decide) rfl ?_
      walk_at "w"
      refine CallW.len rfl (by simp; omega) ?_
      rw [List.length_map]
      walk_at "w"
      refine EvalW.compP (gN fun x => if freeF W x = true then some (nv x) else none) rfl P.hd rfl ?_
      refine IterE.list ?_
      walk_at "w"
      refine SubW.list rfl (by omega) (by omega) hg ?_
      simp only [wv]
      walk_at "w"
      refine SubW.tup (by decide) (by decide) rfl ?_
      refine ⟨_, rfl, by simp; omega, fun _ _ => rfl, ?_, ?_⟩
      · intro v hv H2 hle
        obtain ⟨x, hx, rfl⟩ := List.mem_map.mp hv
        have hxl := w3 x hx
        refine PureStep.filt rfl fun L' => ?_
        simp only [nv]
        walk_at "w"
        refine SubW.list rfl (by omega) (by omega) (u := .bool (freeF W x)) (by simpa using bl_get hxl) ?_
        walk_at "w"
        refine ⟨rfl, ite_w (fun h1 => ?_) fun h1 => ?_⟩
        · walk_at "w"
          refine ⟨rfl, ?_⟩
          rw [gN_nv, h1]; rfl
        · rw [gN_nv, h1]; rfl
      rw [fm_gN, fm_filter]
      have hfl := List.length_filter_le (freeF W) l
      walk_at "w"
      refine CallW.len rfl (by simp; omega) ?_
      rw [List.length_map]
      walk_at "w"
      refine ⟨_, ⟨i + 1, hr, by omega, rfl, rfl⟩, rfl, rfl, rfl, rfl, rfl, ?_, trivial⟩
      show some (V.int _) = some (V.int _)
      rw [htk, htm, Int.add_assoc]
    rintro l H' ⟨i, er, hi, rfl, rfl⟩
    have hle := drop_nil er
    rw [List.length_map] at hle
    rw [List.take_of_length_le hle, hlet]
    have Rm : ∀ {f : Addr} {nm : Str}, Rho.of (nattrs N As W.length asker M.many) nm = none → findIn (K8x C) (.ref 233) nm = some (some (.ref f)) → typeIn (K8x C) (.ref f) = some (.type "function") → MethIs C H' (.ref N.i) nm (.ref f) := fun h1 h2 h3 => Rp.meth P hN h1 h2 h3
    walk_at "w"
    refine ⟨_, Rm (f := 204) (by with_unfolding_all rfl) (by kernel_rfl) (by kernel_rfl), Plainly.ofS P.X rfl, ?_⟩
    walk_at "w"
    refine (rung_ok P _).call ⟨N, As, W.length, asker, M, rfl, Rp, has, by omega, ?_⟩
    rw [hR0]
    walk_at "w"
    refine CallW.isi_bool rfl ?_
    walk_at "w"
    refine ite_f rfl ?_
    walk_at "w"
    refine SubW.list rfl (by omega) (by omega) (u := .bool (freeF W asker)) (by simpa using bl_get has) ?_
    walk_at "w"
    refine CmpW.eqB ?_
    walk_at "w"
    refine ite_f (by rw [E.freeOf hne .root]; cases (M.hands asker).freed <;> rfl) ?_
    walk_at "w"
    refine ⟨_, Rm (f := 197) (by with_unfolding_all rfl) (by kernel_rfl) (by kernel_rfl), Plainly.ofS P.X rfl, ?_⟩
    walk_at "w"
    refine (sent_ok P _).call ⟨N, As, W.length, asker, M, rfl, Rp, ?_⟩
    walk_at "w"
    refine ite_f (by simp) ?_
    walk_at "w"
    refine ite_f rfl ?_
    walk_at "w"
    refine ⟨_, Rm (f := 209) (by with_unfolding_all rfl) (by kernel_rfl) (by kernel_rfl), Plainly.ofS P.X rfl, ?_⟩
    walk_at "w"
    refine (shown_ok P _).call ⟨N, As, W.length, asker, M, rfl, Rp, by omega, .inl ?_⟩
    rw [E.shown]
    walk_at "w"
    refine ⟨_, Rm (f := 209) (by with_unfolding_all rfl) (by kernel_rfl) (by kernel_rfl), Plainly.ofS P.X rfl, ?_⟩
    walk_at "w"
    refine (shown_ok P _).call ⟨N, As, W.length, asker, M, rfl, Rp, by omega, .inr fun x hx => ?_⟩
    rw [E.shown]
    refine ⟨_, MethIs.append (Hp.set_self ..), Plainly.builtin _, ?_⟩
    walk_at "w"
    refine CallW.append (Hp.set_self ..) (by simp; omega) ?_
    have le2 := Hp.le_set' (o := .list ((shL W.length M).map nv ++ [V.int 0])) (Hp.le_set (o := .list ((shL W.length M).map nv)) hx) hx
    have Rp2 := Rp.le le2
    clear Rm le2 Rp
    generalize (H'.set x (.list ((shL W.length M).map nv))).set x (.list ((shL W.length M).map nv ++ [V.int 0])) = H2 at Rp2
    walk_at "w"
    refine ⟨_, Rp2.meth P hN (f := 209) (by with_unfolding_all rfl) (by kernel_rfl) (by kernel_rfl), Plainly.ofS P.X rfl, ?_⟩
    walk_at "w"
    refine (shown_ok P _).call ⟨N, As, W.length, asker, M, rfl, Rp2, by omega, .inl ?_⟩
    rw [E.shown]
    walk_at "w"
    refine CmpW.neN (l := shL W.length M) (l' := shL W.length M) rfl rfl ?_
    walk_at "w"
    refine ite_f (by simp) ?_
    walk_at "w"
    refine CallW.isi_list rfl ?_
    walk_at "w"
    refine ite_f rfl ?_
    walk_at "w"
    refine ite_f rfl ?_
    walk_at "w"
    refine EvalW.compP (fun _ => none) rfl P.hd rfl ?_
    refine IterE.list ?_
    walk_at "w"
    refine ⟨_, rfl, by simp; omega, fun _ _ => rfl, ?_, ?_⟩
    · intro v hv H3 hle
      obtain ⟨x, hx, rfl⟩ := List.mem_map.mp hv
      refine PureStep.filt rfl fun L' => ?_
      simp only [nv]
      walk_at "w"
      refine CallW.isi_bool rfl ?_
      walk_at "w"
      refine ite_f rfl ?_
      walk_at "w"
      refine CallW.isi_int rfl ?_
      walk_at "w"
      refine ite_f rfl ?_
      walk_at "w"
      exact ⟨rfl, ite_f rfl (by first | exact rfl | exact trivial)⟩
    refine EvalW.list_fz ?_
    walk_at "w"
    refine ⟨by simp, ?_⟩
    refine CmpW.neN (l := []) (l' := []) (by simp [lview]) (by simp [lview]) ?_
    walk_at "w"
    refine ite_f rfl ?_
    walk_at "w"
    refine EvalW.compP (gN fun x => if (!freeF W x) = true then some (nv x) else none) rfl P.hd rfl ?_
    refine IterE.list ?_
    walk_at "w"
    refine ⟨_, rfl, by simp; omega, fun _ _ => rfl, ?_, ?_⟩
    · intro v hv H3 hle
      obtain ⟨x, hx, rfl⟩ := List.mem_map.mp hv
      have hxl : x < W.length := by simpa using (List.mem_filter.mp hx).1
      refine PureStep.filt rfl fun L' => ?_
      simp only [nv]
      walk_at "w"
      refine SubW.list rfl (by omega) (by omega) (u := .bool (freeF W x)) (by simpa using bl_get hxl) ?_
      walk_at "w"
      refine ⟨rfl, ite_w (fun h1 => ?_) fun h1 => ?_⟩
      · walk_at "w"
        refine ⟨rfl, ?_⟩
        rw [gN_nv, h1]; rfl
      · rw [gN_nv, h1]; rfl
    rw [fm_gN, fm_filter, E.shownOf hne]
    refine CmpW.neN (l := shL W.length M) (l' := shL W.length M) rfl rfl ?_
    walk_at "w"
    refine ite_f (by simp) ?_
    walk_at "w"
    refine ExecW.for_all false P.hd (fun e => by cases e) [(Str.ofString "_law_waits_here", V.lst (W.map wv)), (Str.ofString "_law_shown", V.lst ((shL W.length M).map nv))] ⟨rfl, rfl, trivial⟩ ?_
    refine IterE.list ?_
    walk_at "w"
    refine ⟨_, rfl, fun _ => True, rfl, ?_, ?_⟩
    · intro i v hv _
      rw [List.getElem?_map] at hv
      obtain ⟨h, hgt, rfl⟩ : ∃ h, (shL W.length M)[i]? = some h ∧ nv h = v := by
        cases z : (shL W.length M)[i]? with
        | none => rw [z] at hv; cases hv
        | some h => rw [z] at hv; exact ⟨h, rfl, Option.some.inj hv⟩
      have hm := List.mem_of_getElem? hgt
      obtain ⟨b, l, hh, ew, in1, in2⟩ := E.inside hne hm
      have hg : (W.map wv)[((h : Nat) : Int).toNat]? = some (wv (some (b, l))) := by
        rw [← ew]; simp [hh]
      have hw := hW3 (W.getD h none) (by simp [List.getD_eq_getElem?_getD, hh])
      rw [ew] at hw
      obtain ⟨w1, w2, w3, w4⟩ := hw
      refine AssignW.name (Or.inl rfl) ?_
      simp only [nv]
      walk_at "w"
      refine ExecW.assign_compP (gN fun x => if decide (x ∈ shL W.length M) = true then some (nv x) else none) rfl rfl P.hd rfl ?_
      refine IterE.list ?_
      walk_at "w"
      refine SubW.list rfl (by omega) (by omega) hg ?_
      simp only [wv]
      walk_at "w"
      refine SubW.tup (by decide) (by decide) rfl ?_
      refine ⟨_, rfl, by simp; omega, fun _ _ => rfl, ?_, ?_⟩
      · intro v hv H3 hle
        obtain ⟨x, hx, rfl⟩ := List.mem_map.mp hv
        refine PureStep.filt rfl fun L' => ?_
        simp only [nv]
        walk_at "w"
        refine CmpW.inN (l := shL W.length M) rfl (by omega) ?_
        rw [Int.toNat_natCast]
        walk_at "w"
        refine ⟨rfl, ite_w (fun h1 => ?_) fun h1 => ?_⟩
        · walk_at "w"
          refine ⟨rfl, ?_⟩
          rw [gN_nv, h1]; rfl
        · rw [gN_nv, h1]; rfl
      rw [fm_gN, fm_filter]
      have hfl := List.length_filter_le (fun x => decide (x ∈ shL W.length M)) l
      generalize l.filter (fun x => decide (x ∈ shL W.length M)) = ins at in1 in2 hfl
      walk_at "w"
      refine EvalW.list_fz ?_
      walk_at "w"
      refine ⟨by simp, ?_⟩
      refine CmpW.eqN (l := ins) (l' := []) rfl rfl ?_
      walk_at "w"
      refine ite_f (by simpa using in1) ?_
      walk_at "w"
      refine SubW.list rfl (by omega) (by omega) hg ?_
      simp only [wv]
      walk_at "w"
      refine SubW.tup (by decide) (by decide) rfl ?_
      walk_at "w"
      cases b with
      | false =>
        refine ite_t (by with_unfolding_all rfl) ?_
        walk_at "w"
        refine CallW.len rfl (by simp; omega) ?_
        rw [List.length_map]
        walk_at "w"
        refine SubW.list rfl (by omega) (by omega) hg ?_
        simp only [wv]
        walk_at "w"
        refine SubW.tup (by decide) (by decide) rfl ?_
        walk_at "w"
        refine CallW.len rfl (by simp; omega) ?_
        rw [List.length_map]
        walk_at "w"
        refine ite_f (by rw [in2 rfl]; simp) ?_
        refine ite_f rfl ?_
        walk_at "w"
        refine ite_f rfl ?_
        walk_at "w"
        exact ⟨trivial, rfl, rfl, rfl, trivial⟩
      | true =>
        refine ite_f (by with_unfolding_all rfl) ?_
        refine ite_f rfl ?_
        walk_at "w"
        refine ite_f rfl ?_
        walk_at "w"
        exact ⟨trivial, rfl, rfl, rfl, trivial⟩
    · intro _
      walk_at "w"
      exact RetQ.here (hQ _)
variable {C : Cx}
def S_law8 : SpecT := fun args Q R H => ∃ ns : List Int, args = [.lst (ns.map .int)] ∧ ns.length ≤ 100 ∧ ∀ H', Q (.bool true) H'

set_option maxHeartbeats 8000000 in
theorem law_ok (P : PCx C (K8x C)) (k : Nat) : FnOK C (k + 8) (.ref 285) S_law8 := by
  have hc := handC C
  have hN := netC C
  refine FnOK.ofS (K := K8x C) [Str.ofString "_law_script"] P.X P.lim rfl rfl (by kernel_rfl) ?_ (by kernel_rfl) (by kernel_rfl) ?_
  · intro vals h
    rcases vals with _ | ⟨a, _ | ⟨b, t⟩⟩ <;> simp at h
    rfl
  · rintro args Q R H ⟨ns, rfl, hn, hQ⟩
    refine ⟨rfl, fun L => ?_⟩
    walk_at "w"
    refine (waits_ok P _).call ⟨ns, rfl, hn, ?_⟩
    obtain ⟨hWok, hW24, ix, hlen⟩ := W8w_ok ns
    generalize W8w ns = W at hWok hW24 hlen ⊢
    have hsum := lens_le hW24 hlen
    have ⟨hW1, hW2, hW3⟩ := hWok
    walk_at "w"
    refine (cell_ok P _).call ⟨ns, 1, rfl, by omega, hn, ?_⟩
    walk_at "w"
    refine CallW.len rfl (by simp; omega) ?_
    rw [List.length_map]
    walk_at "v"
    obtain ⟨asker, hasd⟩ : ∃ a : Nat, (a : Int) = cellV ns 1 % (W.length : Int) := ⟨(cellV ns 1 % (W.length : Int)).toNat, Int.toNat_of_nonneg (Int.emod_nonneg _ (by omega))⟩
    have has : asker < W.length := by have := Int.emod_lt_of_pos (cellV ns 1) (b := (W.length : Int)) (by omega); omega
    rw [← hasd]
    walk_at "w"
    refine (cell_ok P _).call ⟨ns, 1, rfl, by omega, hn, ?_⟩
    walk_at "v"
    walk_at "v"
    walk_at "v"
    walk_at "v"
    walk_at "v"
    obtain ⟨way, hwd, hw4⟩ : ∃ w : Nat, (w : Int) = cellV ns 1 / 30 % 4 ∧ w < 4 := ⟨(cellV ns 1 / 30 % 4).toNat, Int.toNat_of_nonneg (by omega), by omega⟩
    rw [← hwd]
    walk_at "w"
    refine EvalW.compP (fun v => some v) rfl P.hd rfl ?_
    refine IterE.list ?_
    walk_at "w"
    refine ⟨_, rfl, by simp; omega, fun _ _ => rfl, ?_, ?_⟩
    · intro v hv H' hle
      refine PureStep.map rfl fun L' => ?_
      walk_at "w"
      exact ⟨rfl, rfl⟩
    rw [show (W.map wv).filterMap (fun v => some v) = W.map wv by simp]
    walk_at "w"
    refine CallW.make P (by kernel_rfl) (by kernel_rfl) (by kernel_rfl) (ninit_ok P _) fun x d hx hd hxd => ?_
    refine ⟨x, d, W, asker, rfl, hWok, has, Hp.set_self .., (Hp.set_ne hxd.symm).trans (Hp.set_self ..), ?_⟩
    intro H1 N As e1 e2 Rp fr foot
    refine ⟨rfl, ?_⟩
    subst e1
    clear fr foot
    have K := K8.start W asker has fun w hw b l e => by have := hW3 w hw; rw [e] at this; exact this
    generalize (netM W asker).row = S0 at K
    generalize netM W asker = M0 at Rp K
    have hmo := K.most hsum
    walk_at "w"
    refine ⟨_, Rp.meth P hN (f := 183) (by with_unfolding_all rfl) (by kernel_rfl) (by kernel_rfl), Plainly.ofS P.X rfl, ?_⟩
    walk_at "w"
    refine (letters_ok P _).call ⟨N, As, W.length, asker, M0, rfl, Rp, by omega, .inl ?_⟩
    walk_at "w"
    refine CallW.len rfl (by simp; omega) ?_
    rw [List.length_map]
    walk_at "w"
    refine ExecW.while_in (fun m l H' => ∃ t M S Cm, m = 400 - t ∧ NetRep 125 233 H' N As W.length asker M ∧ K8 W asker M S Cm ∧ Cm.length = t ∧ l = [(Str.ofString "_law_script", V.lst (ns.map .int)), (Str.ofString "_law_waits_here", V.lst (W.map wv)), (Str.ofString "_law_asker", V.int ((asker : Nat) : Int)), (Str.ofString "_law_way", V.int ((way : Nat) : Int)), (Str.ofString "_law_net", V.ref N.i), (Str.ofString "_law_turn", V.int ((t : Nat) : Int)), (Str.ofString "_law_many", V.int ((M.row.length : Nat) : Int))]) 400 ?_ ?_
    · exact ⟨_, ⟨0, M0, S0, [], rfl, Rp, K, rfl, rfl⟩, rfl, rfl, rfl, rfl, rfl, rfl, rfl, trivial⟩
    clear Rp K hmo
    clear M0 S0
    rintro m l H' ⟨t, M, S, Cm, hm, Rp, K, hCm, rfl⟩
    have hmo := K.most hsum
    walk_at "w"
    refine ite_w (fun h => ?_) fun h => ?_
    · have hpos : 0 < M.row.length := by simp at h; omega
      walk_at "w"
      refine ite_t (by simp; omega) ?_
      walk_at "w"
      refine ite_t rfl ?_
      have hne : M.row ≠ [] := fun e => by rw [e] at hpos; cases hpos
      have er : rungV (M.hands asker) = .none := by unfold rungV; rw [if_pos (K.I.pos hne)]
      walk_at "w"
      refine ⟨_, Rp.meth P hN (f := 204) (by with_unfolding_all rfl) (by kernel_rfl) (by kernel_rfl), Plainly.ofS P.X rfl, ?_⟩
      walk_at "w"
      refine (rung_ok P _).call ⟨N, As, W.length, asker, M, rfl, Rp, has, by omega, ?_⟩
      rw [er]
      walk_at "w"
      refine CmpW.isNotNone trivial ?_
      walk_at "w"
      refine ite_f rfl ?_
      walk_at "w"
      refine (mixed_ok P _).call ⟨ns, _, _, rfl, by omega, hn, ?_⟩
      walk_at "v"
      walk_at "v"
      obtain ⟨p, hpd⟩ : ∃ p : Nat, (p : Int) = mixG 48271 7727 999983 ns (26 + (t : Int) % 37) t % (M.row.length : Int) := ⟨(mixG 48271 7727 999983 ns (26 + (t : Int) % 37) t % (M.row.length : Int)).toNat, Int.toNat_of_nonneg (Int.emod_nonneg _ (by omega))⟩
      have hp : p < M.row.length := by have := Int.emod_lt_of_pos (mixG 48271 7727 999983 ns (26 + (t : Int) % 37) t) (b := (M.row.length : Int)) (by omega); omega
      rw [← hpd]
      refine Cont.next (ExecsW.seq (fun l H'' => H'' = H' ∧ ∃ p : Nat, p < M.row.length ∧ l = [(Str.ofString "_law_script", V.lst (ns.map .int)), (Str.ofString "_law_waits_here", V.lst (W.map wv)), (Str.ofString "_law_asker", V.int ((asker : Nat) : Int)), (Str.ofString "_law_way", V.int ((way : Nat) : Int)), (Str.ofString "_law_net", V.ref N.i), (Str.ofString "_law_turn", V.int ((t : Nat) : Int)), (Str.ofString "_law_place", V.int ((p : Nat) : Int))]) ?_ ?_)
      · walk_at "w"
        refine ite_w (fun h2 => ?_) fun h2 => ?_
        · have hw2 : way < 2 := by simp at h2; omega
          walk_at "w"
          refine EvalW.list_fz ?_
          walk_at "w"
          refine ⟨by simp, ?_⟩
          walk_at "w"
          refine SubW.list rfl (by omega) (by omega) (u := .int (((if way = 0 then 0 else M.row.length - 1 : Nat)) : Int)) ?_ ?_
          · have : way = 0 ∨ way = 1 := by omega
            rcases this with e | e
            · subst e; rfl
            · subst e
              show some (V.int _) = some (V.int _)
              congr 2
              simp; omega
          walk_at "w"
          refine ⟨_, ⟨rfl, (if way = 0 then 0 else M.row.length - 1), by split <;> omega, rfl⟩, rfl, rfl, rfl, rfl, rfl, rfl, rfl, trivial⟩
        · walk_at "w"
          exact ⟨_, ⟨rfl, p, hp, rfl⟩, rfl, rfl, rfl, rfl, rfl, rfl, rfl, trivial⟩
      clear hpd hp
      clear p
      rintro l H2 ⟨rfl, p, hp, rfl⟩
      obtain ⟨u, hu⟩ : ∃ u, M.row[p]? = some u := ⟨_, List.getElem?_eq_getElem hp⟩
      walk_at "w"
      refine ⟨_, Rp.meth P hN (f := 190) (by with_unfolding_all rfl) (by kernel_rfl) (by kernel_rfl), Plainly.ofS P.X rfl, ?_⟩
      walk_at "w"
      refine (bring_ok P _).call ⟨N, As, W.length, asker, M, p, rfl, Rp, ⟨fun r hr => by have := K.za r hr; exact ⟨by omega, by omega, by omega⟩, fun u hu => (K.I.row u hu).2, by omega⟩, by omega, hp, ?_⟩
      intro H6 y Rp2 gy hy fr
      have K2 := K.bring hu
      have hm2 := K2.most hsum
      rw [List.length_append, List.length_singleton] at hm2
      generalize S ++ (bringM M p).2 = S2 at K2
      generalize (bringM M p).1 = M2 at Rp2 K2 hm2
      walk_at "w"
      refine ⟨_, Rp2.meth P hN (f := 183) (by with_unfolding_all rfl) (by kernel_rfl) (by kernel_rfl), Plainly.ofS P.X rfl, ?_⟩
      walk_at "w"
      refine (letters_ok P _).call ⟨N, As, W.length, asker, M2, rfl, Rp2, by omega, .inl ?_⟩
      walk_at "w"
      refine CallW.len rfl (by simp; omega) ?_
      rw [List.length_map]
      walk_at "w"
      refine ⟨_, ⟨400 - (t + 1), by omega, t + 1, M2, S2, Cm ++ [u], rfl, Rp2, K2, by simp [hCm], rfl⟩, rfl, rfl, rfl, rfl, rfl, ?_, rfl, trivial⟩
      show some (V.int _) = some (V.int _)
      congr 2
    · have hrow : M.row = [] := by
        have : ¬ 0 < M.row.length := fun q => by simp at h; rw [h] at q; simp at q
        exact List.length_eq_zero_iff.mp (by omega)
      refine ite_f rfl ?_
      walk_at "w"
      rw [hrow]
      refine ite_t rfl ?_
      walk_at "w"
      refine (end8_ok P _).call ⟨W, N, As, asker, M, S, Cm, rfl, hWok, hsum, Rp, K, hrow, fun H3 => ?_⟩
      walk_at "w"
      exact RetQ.here (hQ _)
end Mine
open PySem PySem.W PyProof.Rows
set_option Elab.async false
set_option maxRecDepth 100000
set_option maxHeartbeats 8000000
theorem PySem.Challenge.cw_uf060008_08_holds : PySem.Challenge.rw_uf060008_08.Holds := by
  refine holds_law Mine.said08 fun said => ?_
  refine holds_open (q := Mine.q08) (loose := Mine.loose08) (Xt := fun s => recOk (RowW.records PySem.Challenge.rw_uf060008_08.row.toRowW) s) (XP := fun _ _ => True) (Yf := Hook.obs Mine.hook08) (Ya := Hook.val Mine.hook08) (YP := Hook.says Mine.hook08) (N := 6000) Mine.left08 (Hook.of _) (Hook.keeps _) (fun _ _ => trivial) (fun _ _ _ _ _ => trivial) (by rfl) (by rfl) (by rfl) (fun s e => recFacts_of e) (by rfl) said Mine.ok08 ⟨rfl, rfl, rfl, rfl, rfl, by decide +kernel⟩ ?hw ?hc
  case hw => w_witness2
  intro w s₀ s₁ mg mb G Y fa o pm cd doc dV kV ho hd hcd hD hmg hg args vals as hpre hlay hrd hwl hlo
  have KX : (Mine.K08 w.params).In s₁.heap := Y
  refine Ground.open G ?_
  intro T B D TE TW
  wrow_args hpre hlay hrd hwl hlo
  rename_i ns _ _ _ _ _ _ _ a vals _ hL _ _ _ hI _ hlen _
  refine enter_call ?_
  have hfa := mg_of KX T.g (n := Str.ofString "law") (v := .ref 285) (by kernel_rfl)
  have efa : Value.ref fa = .ref 285 := Option.some.inj (hmg.symm.trans hfa)
  rw [efa]
  obtain ⟨_, ⟨oc, _, _, hoc, _⟩, _⟩ := T.nodigits
  have P : Mine.PCx ⟨PySem.Challenge.rw_uf060008_08.row.prog, w, s₁.heap, s₁.os, true, ⟨oc, hoc⟩⟩ (Mine.K08 w.params) := ⟨KX, T.nolimit, ⟨mg, mb, T.g, T.b, T.builtins⟩, rfl⟩
  exact Mine.law_glue ⟨oc, hoc⟩ hg hL hI (Mine.law_ok (C := ⟨PySem.Challenge.rw_uf060008_08.row.prog, w, s₁.heap, s₁.os, true, ⟨oc, hoc⟩⟩) P 0) (by decide) ⟨ns, rfl, by omega, fun _ => rfl⟩ (fun _ => rfl) (by with_unfolding_all rfl)

