import PyProof.Rows.All
import PyProof.Raises
import PyProof.Calls
import PyProof.AssignAttr
import PyProof.FactsAll.list_3
import PyProof.FactsAll.list_4
import PyProof.FactsAll.dict_3
import PyProof.FactsAll.dict_4
import PyProof.AutoListH
import PyProof.AutoSeq1
import PyProof.SliceSyntax
import PyProof.SliceList
import PyProof.ForAny
import PyProof.CallType
import PyProof.Cells
import PyProof.CompMap
import PyProof.PlainList
import PyProof.ConsumeWalk
import PyProof.CompFree
import PyProof.Conv_int_bool
import PyProof.DefCall
import PyProof.MeetsSeq
import PyProof.MeetsIn
import PyProof.DictKinds
import PyProof.DictRoads
import PyProof.DictStraight
import PyProof.DictUpdate
import PyProof.DictTable
import PyProof.EnumFor
import PyProof.EnumMake
import PyProof.RangeIter
import PyProof.WalksMore
import PyProof.RangeFor
import PyProof.ForRange
import PyProof.IsiHeapPairs
import PyProof.IsiNone
import PyProof.IsiPairs
import PyProof.LetGo
import PyProof.ListCopy
import PyProof.ListMulRoad
import PyProof.ListRange
import PyProof.ListTruth
import PyProof.WalkInts
import PyProof.Rows.News
import PyProof.Rows.TupAssign
import PyProof.Rows.TupSub
import PyProof.Rows.Lst
import PyProof.Rows.IntRules
import PyProof.Rows.AttrNodeAny
import PyProof.Rows.Chain
import PyProof.Rows.Nodes
import PyProof.Rows.RuleU_int
import PyProof.Rows.RuleB_mul
import PyProof.Rows.RuleB_floordiv
import PyProof.Rows.RuleB_mod
import PyProof.Rows.SeqSlice
import PyProof.Rows.Method
import PyProof.Rows.StrTemp
import PyProof.Rows.ListMul
import PyProof.Rows.RuleC_int
import PyProof.Rows.RuleIs
import PyProof.Rows.TupMore
import PyProof.SliceMore
import PyProof.Rows.StrRules
import PyProof.Rows.EqDataRows
import PyProof.Rows.InDataRows
import PyProof.Rows.SeqMore
import PyProof.Rows.MinMaxN
import OpenK.KMake
import OpenK.KCls
import OpenK.KWalk
import OpenK.KCell
import KE.KItem
import KE.KRevIter
import Wide.All
import OpenK.AllK
import Wide.FinOn
import Lean
import PySem.Challenge.RW_uf060008_05

set_option Elab.async false
set_option linter.unusedVariables false
namespace Mine
open PySem

inductive V where
  | none
  | bool (b : Bool)
  | int (i : Int)
  | str (s : Str)
  | tup (l : List V)
  | lst (l : List V)
  | ref (a : Addr)
  | con (v : Value)
  deriving Inhabited

inductive O where
  | list (l : List V)
  | dictI (m : Int → Option V) (n : Nat)
  | dictS (m : Str → Option V) (n : Nat)
  | inst (c d : Addr)
  | ns (m : Str → Option V) (n : Nat)

abbrev Hp := Addr → Option O
abbrev Rho := Str → Option V
def Hp.set (H : Hp) (a : Addr) (o : O) : Hp := fun b => if b = a then some o else H b
def Rho.set (ρ : Rho) (x : Str) (v : V) : Rho := fun y => if y = x then some v else ρ y

mutual
inductive VRel (h : Heap) (H : Hp) : V → Value → Prop
  | none : VRel h H .none .none
  | bool (b : Bool) : VRel h H (.bool b) (.bool b)
  | int (i : Int) (t : Tok) : VRel h H (.int i) (.int i t)
  | str (s : Str) (t : Tok) : VRel h H (.str s) (.str s t)
  | tup {a : Addr} {l : List V} {xs : Array Value} (ha : h.IsTuple a xs) (ho : H a = none) (hl : VRelL h H l xs.toList) : VRel h H (.tup l) (.ref a)
  | lst {a : Addr} {l : List V} {xs : Array Value} (ha : h.IsList a xs) (ho : H a = none) (hl : VRelL h H l xs.toList) : VRel h H (.lst l) (.ref a)
  | ref (a : Addr) : VRel h H (.ref a) (.ref a)
  | con (v : Value) : VRel h H (.con v) v
inductive VRelL (h : Heap) (H : Hp) : List V → List Value → Prop
  | nil : VRelL h H [] []
  | cons {v : V} {x : Value} {l : List V} {xs : List Value} (hv : VRel h H v x) (hl : VRelL h H l xs) : VRelL h H (v :: l) (x :: xs)
end

/-- what may change between two states: owned objects; new objects may come -/
structure Ext (H : Hp) (h : Heap) (H' : Hp) (h' : Heap) : Prop where
  keep : ∀ a o, h.get? a = some o → H a = none → h'.get? a = some o
  grow : ∀ a o, h.get? a = some o → H a = none → H' a = none
  live : ∀ a o, h.get? a = some o → ∃ o', h'.get? a = some o'

theorem Ext.refl (H : Hp) (h : Heap) : Ext H h H h := ⟨fun _ _ e _ => e, fun _ _ _ e => e, fun _ o e => ⟨o, e⟩⟩
theorem Ext.trans {H h H' h' H'' h''} (x : Ext H h H' h') (y : Ext H' h' H'' h'') : Ext H h H'' h'' :=
  ⟨fun a o e n => y.keep a o (x.keep a o e n) (x.grow a o e n), fun a o e n => y.grow a o (x.keep a o e n) (x.grow a o e n), fun a o e => let ⟨o', e'⟩ := x.live a o e; y.live a o' e'⟩

/-- lists and tuples that nobody owns stay -/
def ExtV (H : Hp) (h : Heap) (H' : Hp) (h' : Heap) : Prop :=
  ∀ a o xs n, h.get? a = some o → o.data = .seq xs n → H a = none → h'.get? a = some o ∧ H' a = none
theorem Ext.v {H h H' h'} (E : Ext H h H' h') : ExtV H h H' h' := fun a o _ _ e _ n => ⟨E.keep a o e n, E.grow a o e n⟩
/-- one object that is neither list nor tuple is changed -/
theorem ExtV.but {H : Hp} {h h' : Heap} {b : Addr} {ob : Obj} (hb : h.get? b = some ob) (nb : ∀ xs n, ob.data ≠ .seq xs n) (e : ∀ a o, a ≠ b → h.get? a = some o → h'.get? a = some o) : ExtV H h H h' :=
  fun a o xs n ea d m => ⟨e a o (fun q => by subst q; rw [hb] at ea; cases ea; exact nb _ _ d) ea, m⟩

mutual
theorem VRel.extV {H h H' h'} (E : ExtV H h H' h') : ∀ {v x}, VRel h H v x → VRel h' H' v x
  | _, _, .none => .none
  | _, _, .bool b => .bool b
  | _, _, .int i t => .int i t
  | _, _, .str i t => .str i t
  | _, _, .tup ha ho hl => .tup (let ⟨o, e, c, n, r⟩ := ha; ⟨o, (E _ _ _ _ e r ho).1, c, n, r⟩) (let ⟨o, e, c, n, r⟩ := ha; (E _ _ _ _ e r ho).2) (VRelL.extV E hl)
  | _, _, .lst ha ho hl => .lst (let ⟨o, e, c, n, r⟩ := ha; ⟨o, (E _ _ _ _ e r ho).1, c, n, r⟩) (let ⟨o, e, c, n, r⟩ := ha; (E _ _ _ _ e r ho).2) (VRelL.extV E hl)
  | _, _, .ref a => .ref a
  | _, _, .con v => .con v
theorem VRelL.extV {H h H' h'} (E : ExtV H h H' h') : ∀ {v x}, VRelL h H v x → VRelL h' H' v x
  | _, _, .nil => .nil
  | _, _, .cons hv hl => .cons (hv.extV E) (VRelL.extV E hl)
end
theorem VRel.ext {H h H' h'} (E : Ext H h H' h') {v x} (r : VRel h H v x) : VRel h' H' v x := r.extV E.v
theorem VRelL.ext {H h H' h'} (E : Ext H h H' h') {v x} (r : VRelL h H v x) : VRelL h' H' v x := r.extV E.v
theorem VRelL.length {h H} : ∀ {l xs}, VRelL h H l xs → xs.length = l.length
  | _, _, .nil => rfl
  | _, _, .cons _ hl => by simp [hl.length]
theorem VRelL.append {h H} : ∀ {l xs l' xs'}, VRelL h H l xs → VRelL h H l' xs' → VRelL h H (l ++ l') (xs ++ xs')
  | _, _, _, _, .nil, y => y
  | _, _, _, _, .cons hv hl, y => .cons hv (hl.append y)
theorem VRelL.get {h H} : ∀ {l xs} {i : Nat} {v : V}, VRelL h H l xs → l[i]? = some v → ∃ x, xs[i]? = some x ∧ VRel h H v x
  | _, _, i, v, .nil, e => by simp at e
  | _, _, 0, v, .cons hv hl, e => by simp at e; subst e; exact ⟨_, rfl, hv⟩
  | _, _, i + 1, v, .cons hv hl, e => by simp at e; simpa using hl.get e
theorem VRelL.take {h H} : ∀ {l xs} (i : Nat), VRelL h H l xs → VRelL h H (l.take i) (xs.take i)
  | _, _, 0, _ => by simp; exact .nil
  | _, _, i + 1, .nil => by simp; exact .nil
  | _, _, i + 1, .cons hv hl => .cons hv (hl.take i)
theorem VRelL.drop {h H} : ∀ {l xs} (i : Nat), VRelL h H l xs → VRelL h H (l.drop i) (xs.drop i)
  | _, _, 0, x => x
  | _, _, i + 1, .nil => by simp; exact .nil
  | _, _, i + 1, .cons hv hl => hl.drop i
theorem VRelL.reverse {h H} : ∀ {l xs}, VRelL h H l xs → VRelL h H l.reverse xs.reverse
  | _, _, .nil => .nil
  | _, _, .cons hv hl => by simp only [List.reverse_cons]; exact hl.reverse.append (.cons hv .nil)

structure Cx where
  prog : Program
  w : World
  base : Heap
  os : OsState
  hd : Bool
  low : ∃ o, base.get? cStatics = some o

abbrev Cx.M (C : Cx) : Model := model C.prog C.w

def OptRel (h : Heap) (H : Hp) : Option V → Option Value → Prop
  | some v, some x => VRel h H v x
  | none, none => True
  | _, _ => False
theorem OptRel.extV {H h H' h'} (E : ExtV H h H' h') : ∀ {v x}, OptRel h H v x → OptRel h' H' v x
  | some _, some _, r => VRel.extV E r
  | none, none, _ => trivial

def ORel (C : Cx) (h : Heap) (H : Hp) (a : Addr) : O → Prop
  | .list l => ∃ xs, h.PlainList a xs ∧ VRelL h H l xs.toList
  | .dictI m n => ∃ kvs, h.DictOf (intKind C.prog C.w) a kvs ∧ kvs.length ≤ n ∧ ∀ k, OptRel h H (m k) (valueAt kvs k)
  | .dictS m n => ∃ kvs, h.DictOf (strKind C.prog C.w) a kvs ∧ kvs.length ≤ n ∧ ∀ k, OptRel h H (m k) (valueAt kvs k)
  | .inst c d => h.get? a = some { cls := .ref c, dict := some d, data := .plain }
  | .ns m n => ∃ o es ep, h.get? a = some o ∧ o.data = .dict es ep ∧ StrKeys es ∧ es.size ≤ n ∧ ∀ k, OptRel h H (m k) (nsFind es k)

structure Sim (C : Cx) (H : Hp) (s : Shared) : Prop where
  keep : ∀ b o, C.base.get? b = some o → s.heap.get? b = some o
  gens : s.gens = #[]
  os : s.os = C.os
  objs : ∀ a o, H a = some o → ORel C s.heap H a o
  new : ∀ a, H a ≠ none → C.base.get? a = none ∧ a ≠ sysModules

theorem ORel.lt {C h H a o} (r : ORel C h H a o) : ∃ ob, h.get? a = some ob := by
  cases o with
  | list l => obtain ⟨xs, ⟨n, e⟩, _⟩ := r; exact ⟨_, e⟩
  | dictI m n => obtain ⟨f, ⟨o, es, ep, e, _⟩, _⟩ := r; exact ⟨o, e⟩
  | dictS m n => obtain ⟨f, ⟨o, es, ep, e, _⟩, _⟩ := r; exact ⟨o, e⟩
  | inst c d => exact ⟨_, r⟩
  | ns m n => obtain ⟨o, es, ep, e, _⟩ := r; exact ⟨o, e⟩

/-- an owned object that nobody touched -/
theorem ORel.same {C h H h' H' a o} (r : ORel C h H a o) (E : ExtV H h H' h') (e : h'.get? a = h.get? a) : ORel C h' H' a o := by
  cases o with
  | list l => obtain ⟨xs, ⟨o, e1⟩, r2⟩ := r; exact ⟨xs, ⟨o, e.trans e1⟩, r2.extV E⟩
  | dictI m n =>
    obtain ⟨f, ⟨o, es, ep, e1, r1⟩, d, r2⟩ := r
    exact ⟨f, ⟨o, es, ep, e.trans e1, r1⟩, d, fun k => (r2 k).extV E⟩
  | dictS m n =>
    obtain ⟨f, ⟨o, es, ep, e1, r1⟩, d, r2⟩ := r
    exact ⟨f, ⟨o, es, ep, e.trans e1, r1⟩, d, fun k => (r2 k).extV E⟩
  | inst c d => exact e.trans r
  | ns m n =>
    obtain ⟨o, es, ep, e1, r1, r3, d, r2⟩ := r
    exact ⟨o, es, ep, e.trans e1, r1, r3, d, fun k => (r2 k).extV E⟩

/-- frame of a call: locals and cells -/
structure Frm (C : Cx) (H : Hp) (env : Env) (m cm : Str → Option Value) (h : Heap) : Prop where
  ns : h.Ns env.locals m
  cell : ∀ n c, env.cells.lookup n = some c → h.IsCell c (cm n)
  own : H env.locals = none
  ownc : ∀ n c, env.cells.lookup n = some c → H c = none
  above : C.base.get? env.locals = none
  abovec : ∀ n c, env.cells.lookup n = some c → C.base.get? c = none
  apart : ∀ n n' c, env.cells.lookup n = some c → env.cells.lookup n' = some c → n = n'

def LocRel (h : Heap) (H : Hp) (env : Env) (m cm : Str → Option Value) (x : Str) (v : V) : Prop :=
  match env.kindOf x with
  | some .local => ∃ u, m x = some u ∧ VRel h H v u
  | some .cell | some .free => ∃ u c, env.cells.lookup x = some c ∧ cm x = some u ∧ VRel h H v u
  | _ => True

structure SimL (C : Cx) (env : Env) (ρ : Rho) (H : Hp) (s : Shared) : Prop where
  sim : Sim C H s
  kind : env.scope.kind = .function
  globals : env.globals = mainGlobals
  builtins : env.builtins = builtinsNs
  frm : ∃ m cm, Frm C H env m cm s.heap ∧ ∀ x v, ρ x = some v → LocRel s.heap H env m cm x v

theorem LocRel.extV {H h H' h' env m cm x v} (E : ExtV H h H' h') (r : LocRel h H env m cm x v) : LocRel h' H' env m cm x v := by
  unfold LocRel at *
  split at r
  · obtain ⟨u, a, b⟩ := r; exact ⟨u, a, b.extV E⟩
  · obtain ⟨u, c, a, b, d⟩ := r; exact ⟨u, c, a, b, d.extV E⟩
  · obtain ⟨u, c, a, b, d⟩ := r; exact ⟨u, c, a, b, d.extV E⟩
  · trivial

theorem Frm.ext {C H h H' h' env m cm} (E : Ext H h H' h') (F : Frm C H env m cm h) : Frm C H' env m cm h' := by
  obtain ⟨oL, es, ep, eL, rL⟩ := F.ns
  refine ⟨⟨oL, es, ep, E.keep _ _ eL F.own, rL⟩, fun n c e => ?_, E.grow _ _ eL F.own, fun n c e => ?_, F.above, F.abovec, F.apart⟩
  · obtain ⟨o, e1, r1⟩ := F.cell n c e; exact ⟨o, E.keep _ _ e1 (F.ownc n c e), r1⟩
  · obtain ⟨o, e1, r1⟩ := F.cell n c e; exact E.grow _ _ e1 (F.ownc n c e)

theorem SimL.ext {C env ρ H s H' s'} (S : SimL C env ρ H s) (S' : Sim C H' s') (E : Ext H s.heap H' s'.heap) : SimL C env ρ H' s' := by
  obtain ⟨m, cm, F, r⟩ := S.frm
  exact ⟨S', S.kind, S.globals, S.builtins, m, cm, F.ext E, fun x v e => (r x v e).extV E.v⟩

/-- what a statement may change besides: its own frame -/
structure ExtF (env : Env) (H : Hp) (h : Heap) (H' : Hp) (h' : Heap) : Prop where
  keep : ∀ a o, h.get? a = some o → H a = none → a ≠ env.locals → (∀ n, env.cells.lookup n ≠ some a) → h'.get? a = some o
  grow : ∀ a o, h.get? a = some o → H a = none → H' a = none
  live : ∀ a o, h.get? a = some o → ∃ o', h'.get? a = some o'

theorem Ext.toF {env H h H' h'} (x : Ext H h H' h') : ExtF env H h H' h' := ⟨fun a o e n _ _ => x.keep a o e n, x.grow, x.live⟩
theorem ExtF.refl (env : Env) (H : Hp) (h : Heap) : ExtF env H h H h := (Ext.refl H h).toF
theorem ExtF.trans {env H h H' h' H'' h''} (x : ExtF env H h H' h') (y : ExtF env H' h' H'' h'') : ExtF env H h H'' h'' := by
  refine ⟨fun a o e n n1 n2 => y.keep a o (x.keep a o e n n1 n2) (x.grow a o e n) n1 n2, fun a o e n => ?_, fun a o e => ?_⟩
  · obtain ⟨o', e'⟩ := x.live a o e; exact y.grow a o' e' (x.grow a o e n)
  · obtain ⟨o', e'⟩ := x.live a o e; exact y.live a o' e'

def Post {α β : Type} (C : Cx) (H : Hp) (h : Heap) (rel : Heap → Hp → β → α → Prop) (Q : β → Hp → Prop) : α → Shared → Prop :=
  fun x s' => ∃ v H', Q v H' ∧ Sim C H' s' ∧ rel s'.heap H' v x ∧ Ext H h H' s'.heap

theorem Post.after {α β : Type} {C : Cx} {H H₁ : Hp} {h h₁ : Heap} {rel : Heap → Hp → β → α → Prop} {Q : β → Hp → Prop} (E : Ext H h H₁ h₁) {x : α} {s' : Shared} (p : Post C H₁ h₁ rel Q x s') : Post C H h rel Q x s' :=
  let ⟨v, H', q, S, r, E'⟩ := p; ⟨v, H', q, S, r, E.trans E'⟩

/-- the room that a call at level k has -/
structure Lv (C : Cx) (k : Nat) (A : Around) : Prop where
  handled : C.hd = true → A.handled = none
  depth : A.depth + 2 * k + 100 < recursionLimit
  units : A.units + 40 * k + 100 < cLine

def BRel (_ : Heap) (_ : Hp) (b x : Bool) : Prop := b = x

def EvalW (C : Cx) (k : Nat) (env : Env) (e : Expr) (Q R : V → Hp → Prop) (ρ : Rho) (H : Hp) : Prop :=
  ∀ A, Lv C k A → ∀ s, SimL C env ρ H s → wpAny C.M A (eval e env) (Post C H s.heap VRel Q) (Post C H s.heap VRel R) s
def TestW (C : Cx) (k : Nat) (env : Env) (e : Expr) (Q : Bool → Hp → Prop) (R : V → Hp → Prop) (ρ : Rho) (H : Hp) : Prop :=
  ∀ A, Lv C k A → ∀ s, SimL C env ρ H s → wpAny C.M A (isTrue e env (eval e env)) (Post C H s.heap BRel Q) (Post C H s.heap VRel R) s
def BinW (C : Cx) (k : Nat) (op : Operator) (v w : V) (Q R : V → Hp → Prop) (H : Hp) : Prop :=
  ∀ A, Lv C k A → ∀ s x y, Sim C H s → VRel s.heap H v x → VRel s.heap H w y → wpAny C.M A (binaryOp op x y) (Post C H s.heap VRel Q) (Post C H s.heap VRel R) s
def CmpW (C : Cx) (k : Nat) (op : CmpOp) (v w : V) (Q R : V → Hp → Prop) (H : Hp) : Prop :=
  ∀ A, Lv C k A → ∀ s x y, Sim C H s → VRel s.heap H v x → VRel s.heap H w y → wpAny C.M A (compareOp op x y) (Post C H s.heap VRel Q) (Post C H s.heap VRel R) s
def TruthW (C : Cx) (k : Nat) (v : V) (Q : Bool → Hp → Prop) (R : V → Hp → Prop) (H : Hp) : Prop :=
  ∀ A, Lv C k A → ∀ s x, Sim C H s → VRel s.heap H v x → wpAny C.M A (truthy x) (Post C H s.heap BRel Q) (Post C H s.heap VRel R) s
def CallW (C : Cx) (k : Nat) (f : Value) (args : List V) (Q R : V → Hp → Prop) (H : Hp) : Prop :=
  ∀ A, Lv C k A → ∀ s xs, Sim C H s → VRelL s.heap H args xs → wpAny C.M A (call f xs) (Post C H s.heap VRel Q) (Post C H s.heap VRel R) s

end Mine

set_option Elab.async false
set_option linter.unusedVariables false
namespace Mine
open PySem PyProof.Rows

theorem Sim.toks {C H s} (S : Sim C H s) (t : Nat) : Sim C H { s with toks := t } := ⟨S.keep, S.gens, S.os, S.objs, S.new⟩
theorem SimL.toks {C env ρ H s} (S : SimL C env ρ H s) (t : Nat) : SimL C env ρ H { s with toks := t } := ⟨S.sim.toks t, S.kind, S.globals, S.builtins, S.frm⟩

theorem Post.here {α β : Type} {C : Cx} {H : Hp} {h : Heap} {rel : Heap → Hp → β → α → Prop} {Q : β → Hp → Prop} {x : α} {v : β} {s' : Shared}
    (q : Q v H) (S : Sim C H s') (r : rel s'.heap H v x) (e : s'.heap = h) : Post C H h rel Q x s' := ⟨v, H, q, S, r, e ▸ Ext.refl _ _⟩

variable {C : Cx} {k : Nat} {env : Env} {ρ : Rho} {H : Hp} {Q R : V → Hp → Prop} {QB : Bool → Hp → Prop}

theorem EvalW.none {c p} (h : Q .none H) : EvalW C k env (.Constant .none c p) Q R ρ H :=
  fun _ _ _ S => wpAny_pure (Post.here h S.sim .none rfl)
theorem EvalW.bool {b c p} (h : Q (.bool b) H) : EvalW C k env (.Constant (.bool b) c p) Q R ρ H :=
  fun _ _ _ S => wpAny_pure (Post.here h S.sim (.bool b) rfl)
theorem EvalW.int {i c p} (h : Q (.int i) H) : EvalW C k env (.Constant (.int i) c p) Q R ρ H :=
  fun _ _ _ S => wpAny_Constant_int (Post.here h (S.toks _).sim (.int i _) rfl)
theorem EvalW.str {x c p} (h : Q (.str x) H) : EvalW C k env (.Constant (.str x) c p) Q R ρ H :=
  fun _ _ _ S => wpAny_mkText (Post.here h (S.toks _).sim (.str x _) rfl)

theorem EvalW.local_ {x p v} (hv : ρ x = some v) (h : Q v H) (hk : env.kindOf x = some .local) (hd : (x == ("__debug__" : Str)) = false := by decide) :
    EvalW C k env (.Name x p) Q R ρ H := fun _ _ s S => by
  obtain ⟨m, cm, F, r⟩ := S.frm
  have := r x v hv
  unfold LocRel at this
  rw [hk] at this
  obtain ⟨u, hm, ru⟩ := this
  exact wpAny_Name (wpAny_loadName_local S.kind hk F.ns hm (Post.here h S.sim ru rfl)) hd
theorem EvalW.cell {x p v} (hv : ρ x = some v) (h : Q v H) (hk : env.kindOf x = some .cell) (hd : (x == ("__debug__" : Str)) = false := by decide) :
    EvalW C k env (.Name x p) Q R ρ H := fun _ _ s S => by
  obtain ⟨m, cm, F, r⟩ := S.frm
  have := r x v hv
  unfold LocRel at this
  rw [hk] at this
  obtain ⟨u, c, hc, hm, ru⟩ := this
  exact wpAny_Name (wpAny_loadName_cell S.kind hk hc (hm ▸ F.cell x c hc) (Post.here h S.sim ru rfl)) hd
/-- a global name of the text, or a builtin -/
def GlobalIs (C : Cx) (x : Str) (v : Value) : Prop :=
  (∃ mg, C.base.Ns mainGlobals mg ∧ mg x = some v) ∨ (∃ mg mb, C.base.Ns mainGlobals mg ∧ mg x = none ∧ C.base.Ns builtinsNs mb ∧ mb x = some v)
def GlobalV (C : Cx) (x : Str) (v : V) : Prop := ∃ u, GlobalIs C x u ∧ ∀ h H, VRel h H v u
theorem EvalW.global {x p v} (g : GlobalV C x v) (h : Q v H) (hk : env.kindOf x = some .globalImplicit) (hd : (x == ("__debug__" : Str)) = false := by decide) :
    EvalW C k env (.Name x p) Q R ρ H := fun _ _ s S => by
  obtain ⟨u, g, r⟩ := g
  refine Calls.Name_function_global S.kind hk ?_ hd
  rcases g with ⟨mg, g1, g2⟩ | ⟨mg, mb, g1, g2, g3, g4⟩
  · exact Calls.loadGlobal_global (by rw [S.globals]; exact g1.keeps S.sim.keep) g2 (Post.here h S.sim (r _ _) rfl)
  · exact Calls.loadGlobal_builtin (by rw [S.globals]; exact g1.keeps S.sim.keep) g2 (by rw [S.builtins]; exact g3.keeps S.sim.keep) g4 (Post.here h S.sim (r _ _) rfl)

/-- chaining: behind a first part -/
theorem wp_go {α β : Type} {C : Cx} {A : Around} {H : Hp} {s : Shared} {rel : Heap → Hp → β → α → Prop} {m : Sem α} {Q : β → Hp → Prop} {R : V → Hp → Prop} {P : α → Shared → Prop} {PE : Value → Shared → Prop}
    (h : wpAny C.M A m (Post C H s.heap rel Q) (Post C H s.heap VRel R) s)
    (h' : ∀ x v H₁ s₁, Q v H₁ → Sim C H₁ s₁ → rel s₁.heap H₁ v x → Ext H s.heap H₁ s₁.heap → P x s₁)
    (hE : ∀ e s₁, Post C H s.heap VRel R e s₁ → PE e s₁ := by intro _ _ p; exact p) : wpAny C.M A m P PE s :=
  wpAny_mono h (fun x s₁ ⟨v, H₁, q, S₁, r, E⟩ => h' x v H₁ s₁ q S₁ r E) hE
theorem wp_fin {α β : Type} {C : Cx} {A : Around} {H H₁ : Hp} {s₁ : Shared} {h : Heap} {rel : Heap → Hp → β → α → Prop} {m : Sem α} {Q : β → Hp → Prop} {R : V → Hp → Prop} (E : Ext H h H₁ s₁.heap)
    (x : wpAny C.M A m (Post C H₁ s₁.heap rel Q) (Post C H₁ s₁.heap VRel R) s₁) : wpAny C.M A m (Post C H h rel Q) (Post C H h VRel R) s₁ :=
  wpAny_mono x (fun _ _ p => p.after E) fun _ _ p => p.after E

theorem EvalW.binop {l op r p} (h : EvalW C k env l (fun v H₁ => EvalW C k env r (fun w H₂ => BinW C k op v w Q R H₂) R ρ H₁) R ρ H) :
    EvalW C k env (.BinOp l op r p) Q R ρ H := fun A a s S =>
  wpAny_BinOp (wp_go (h A a s S) fun x v H₁ s₁ h₁ S₁ r₁ E₁ => wp_go (h₁ A a s₁ (S.ext S₁ E₁)) (fun y w H₂ s₂ h₂ S₂ r₂ E₂ => wp_fin (E₁.trans E₂) (h₂ A a s₂ x y S₂ (r₁.ext E₂) r₂)) fun _ _ p => p.after E₁)
theorem EvalW.compare {l op r p} (h : EvalW C k env l (fun v H₁ => EvalW C k env r (fun w H₂ => CmpW C k op v w Q R H₂) R ρ H₁) R ρ H)
    (hm : behindInMarks op r = false := by with_unfolding_all rfl) :
    EvalW C k env (.Compare l [op] [r] p) Q R ρ H := fun A a s S =>
  wpAny_Compare1 (wp_go (h A a s S) fun x v H₁ s₁ h₁ S₁ r₁ E₁ => wp_go (h₁ A a s₁ (S.ext S₁ E₁)) (fun y w H₂ s₂ h₂ S₂ r₂ E₂ => wp_fin (E₁.trans E₂) (h₂ A a s₂ x y S₂ (r₁.ext E₂) r₂)) fun _ _ p => p.after E₁) hm
theorem TestW.compare {l op r p} (h : EvalW C k env l (fun v H₁ => EvalW C k env r (fun w H₂ => CmpW C k op v w (fun u H₃ => TruthW C k u QB R H₃) R H₂) R ρ H₁) R ρ H)
    (hm : behindInMarks op r = false := by with_unfolding_all rfl) :
    TestW C k env (.Compare l [op] [r] p) QB R ρ H := fun A a s S =>
  wpAny_isTrue_Compare1 (wp_go (h A a s S) fun x v H₁ s₁ h₁ S₁ r₁ E₁ => wp_go (h₁ A a s₁ (S.ext S₁ E₁)) (fun y w H₂ s₂ h₂ S₂ r₂ E₂ =>
    wp_go (h₂ A a s₂ x y S₂ (r₁.ext E₂) r₂) (fun z u H₃ s₃ h₃ S₃ r₃ E₃ => wp_fin ((E₁.trans E₂).trans E₃) (h₃ A a s₃ z S₃ r₃)) fun _ _ p => p.after (E₁.trans E₂)) fun _ _ p => p.after E₁) hm

theorem TestW.not {x p} (h : TestW C k env x (fun b H₁ => QB (!b) H₁) R ρ H) : TestW C k env (.UnaryOp .Not x p) QB R ρ H := fun A a s S =>
  isTrue_not (wpAny_mono (h A a s S) (fun b s' ⟨v, H', q, S', r, E⟩ => ⟨!v, H', q, S', by unfold BRel at *; rw [r], E⟩) fun _ _ x => x)
theorem TestW.and_nil {p} (h : QB true H) : TestW C k env (.BoolOp .And [] p) QB R ρ H := fun A a s S => isTrue_and_nil (Post.here h S.sim rfl rfl)
theorem TestW.or_nil {p} (h : QB false H) : TestW C k env (.BoolOp .Or [] p) QB R ρ H := fun A a s S => isTrue_or_nil (Post.here h S.sim rfl rfl)
theorem TestW.and {x rest p} (h : TestW C k env x (fun b H₁ => if b = true then TestW C k env (.BoolOp .And rest p) QB R ρ H₁ else QB false H₁) R ρ H) :
    TestW C k env (.BoolOp .And (x :: rest) p) QB R ρ H := fun A a s S => by
  refine isTrue_and (wpAny_mono (h A a s S) ?_ fun _ _ x => x)
  rintro b s' ⟨v, H', q, S', rfl, E⟩
  cases v
  · simp only [Bool.false_eq_true, if_false] at q ⊢; exact ⟨false, H', q, S', rfl, E⟩
  · simp only [if_true] at q ⊢; exact wpAny_mono (q A a s' (S.ext S' E)) (fun _ _ p => p.after E) fun _ _ p => p.after E
theorem TestW.or {x rest p} (h : TestW C k env x (fun b H₁ => if b = true then QB true H₁ else TestW C k env (.BoolOp .Or rest p) QB R ρ H₁) R ρ H) :
    TestW C k env (.BoolOp .Or (x :: rest) p) QB R ρ H := fun A a s S => by
  refine isTrue_or (wpAny_mono (h A a s S) ?_ fun _ _ x => x)
  rintro b s' ⟨v, H', q, S', rfl, E⟩
  cases v
  · simp only [Bool.false_eq_true, if_false] at q ⊢; exact wpAny_mono (q A a s' (S.ext S' E)) (fun _ _ p => p.after E) fun _ _ p => p.after E
  · simp only [if_true] at q ⊢; exact ⟨true, H', q, S', rfl, E⟩
theorem TestW.plain {e} (h : EvalW C k env e (fun v H₁ => TruthW C k v QB R H₁) R ρ H)
    (he : ∀ whole, isTrue e env whole = (do let v ← whole; standAt e.pos; holding [v] (truthy v)) := by intro; rfl) : TestW C k env e QB R ρ H := fun A a s S =>
  isTrue_plain (wp_go (h A a s S) fun x v H₁ s₁ h₁ S₁ r₁ E₁ => wp_fin E₁ (h₁ A a s₁ x S₁ r₁)) (he _)

theorem EvalW.not {x p} (h : EvalW C k env x (fun v H₁ => TruthW C k v (fun b H₂ => Q (.bool (!b)) H₂) R H₁) R ρ H) : EvalW C k env (.UnaryOp .Not x p) Q R ρ H := fun A a s S => by
  refine UnaryOp_ (wp_go (h A a s S) fun x v H₁ s₁ h₁ S₁ r₁ E₁ => not_of (wpAny_mono (h₁ A a s₁ x S₁ r₁) ?_ fun _ _ p => p.after E₁))
  rintro c s' ⟨v, H', q, S', rfl, E⟩
  exact ⟨_, H', q, S', .bool _, E₁.trans E⟩
theorem EvalW.and_one {op e p} (h : EvalW C k env e Q R ρ H) : EvalW C k env (.BoolOp op [e] p) Q R ρ H := fun A a s S => BoolOp_one (h A a s S)
theorem EvalW.and {e₁ e₂ rest p} (h : EvalW C k env e₁ (fun v H₁ => TruthW C k v (fun b H₂ => if b = true then EvalW C k env (.BoolOp .And (e₂ :: rest) p) Q R ρ H₂ else Q v H₂) R H₁) R ρ H) :
    EvalW C k env (.BoolOp .And (e₁ :: e₂ :: rest) p) Q R ρ H := fun A a s S => by
  refine BoolOp_and (wpAny_mono (h A a s S) ?_ fun _ _ x => x)
  rintro x s₁ ⟨v, H₁, h₁, S₁, r₁, E₁⟩
  refine wpAny_mono (h₁ A a s₁ x S₁ r₁) ?_ fun _ _ p => p.after E₁
  rintro b s' ⟨b', H', q, S', rfl, E⟩
  cases b'
  · simp only [Bool.false_eq_true, if_false] at q ⊢; exact ⟨v, H', q, S', r₁.ext E, E₁.trans E⟩
  · simp only [if_true] at q ⊢; exact wpAny_mono (q A a s' (S.ext S' (E₁.trans E))) (fun _ _ p => p.after (E₁.trans E)) fun _ _ p => p.after (E₁.trans E)
end Mine

set_option Elab.async false
set_option linter.unusedVariables false
namespace Mine
open PySem PyProof.Rows

theorem get_eq_of {h h' : Heap} {b a : Addr} {o : Obj} (hk : ∀ a o, a ≠ b → h.get? a = some o → h'.get? a = some o) (n : a ≠ b) (e : h.get? a = some o) : h'.get? a = h.get? a := (hk a o n e).trans e.symm

/-- an object that is neither owned nor list nor tuple is changed; others may be new -/
theorem Sim.touch {C : Cx} {H : Hp} {s s' : Shared} {b : Addr} {ob : Obj} (S : Sim C H s) (hb : s.heap.get? b = some ob) (nb : ∀ xs n, ob.data ≠ .seq xs n) (Hb : H b = none) (new : C.base.get? b = none)
    (hk : ∀ a o, a ≠ b → s.heap.get? a = some o → s'.heap.get? a = some o) (hg : s'.gens = s.gens) (ho : s'.os = s.os) : Sim C H s' := by
  refine ⟨fun a o e => hk a o (fun q => ?_) (S.keep a o e), hg.trans S.gens, ho.trans S.os, fun a o e => ?_, S.new⟩
  · subst q; rw [new] at e; cases e
  · have r := S.objs a o e
    obtain ⟨ob', e'⟩ := r.lt
    exact r.same (ExtV.but hb nb hk) (get_eq_of hk (fun q => by subst q; rw [Hb] at e; cases e) e')

theorem ns_noseq {h : Heap} {L : Addr} {m} (n : h.Ns L m) : ∃ o, h.get? L = some o ∧ ∀ xs n, o.data ≠ .seq xs n := by
  obtain ⟨o, es, ep, e, d, _⟩ := n
  exact ⟨o, e, fun xs n q => by rw [d] at q; cases q⟩
theorem cell_noseq {h : Heap} {c : Addr} {v} (n : h.IsCell c v) : ∃ o, h.get? c = some o ∧ ∀ xs n, o.data ≠ .seq xs n := by
  obtain ⟨o, e, d⟩ := n
  exact ⟨o, e, fun xs n q => by rw [d] at q; cases q⟩

inductive Fl where
  | next | brk | cont
  | ret (v : V)

def FlRel (h : Heap) (H : Hp) : Fl → Flow → Prop
  | .next, .next => True
  | .brk, .brk => True
  | .cont, .cont => True
  | .ret v, .ret x => VRel h H v x
  | _, _ => False

def PostS (C : Cx) (env : Env) (H : Hp) (h : Heap) (Q : Fl → Rho → Hp → Prop) : Flow → Shared → Prop :=
  fun f s' => ∃ fl ρ' H', Q fl ρ' H' ∧ FlRel s'.heap H' fl f ∧ SimL C env ρ' H' s' ∧ ExtF env H h H' s'.heap
def PostX (C : Cx) (env : Env) (H : Hp) (h : Heap) (R : V → Rho → Hp → Prop) : Value → Shared → Prop :=
  fun e s' => ∃ v ρ' H', R v ρ' H' ∧ VRel s'.heap H' v e ∧ SimL C env ρ' H' s' ∧ ExtF env H h H' s'.heap
theorem PostS.after {C : Cx} {env : Env} {H H₁ : Hp} {h h₁ : Heap} {Q : Fl → Rho → Hp → Prop} (E : ExtF env H h H₁ h₁) {x : Flow} {s' : Shared} (p : PostS C env H₁ h₁ Q x s') : PostS C env H h Q x s' :=
  let ⟨v, ρ, H', q, r, S, E'⟩ := p; ⟨v, ρ, H', q, r, S, E.trans E'⟩
theorem PostX.after {C : Cx} {env : Env} {H H₁ : Hp} {h h₁ : Heap} {R : V → Rho → Hp → Prop} (E : ExtF env H h H₁ h₁) {x : Value} {s' : Shared} (p : PostX C env H₁ h₁ R x s') : PostX C env H h R x s' :=
  let ⟨v, ρ, H', q, r, S, E'⟩ := p; ⟨v, ρ, H', q, r, S, E.trans E'⟩

def ExecW (C : Cx) (k : Nat) (env : Env) (st : Stmt) (Q : Fl → Rho → Hp → Prop) (R : V → Rho → Hp → Prop) (ρ : Rho) (H : Hp) : Prop :=
  ∀ A, Lv C k A → ∀ s, SimL C env ρ H s → wpAny C.M A (exec st env) (PostS C env H s.heap Q) (PostX C env H s.heap R) s
def ExecsW (C : Cx) (k : Nat) (env : Env) (st : List Stmt) (Q : Fl → Rho → Hp → Prop) (R : V → Rho → Hp → Prop) (ρ : Rho) (H : Hp) : Prop :=
  ∀ A, Lv C k A → ∀ s, SimL C env ρ H s → wpAny C.M A (execs st env) (PostS C env H s.heap Q) (PostX C env H s.heap R) s

/-- an expression's raise, seen by its statement -/
theorem Post.toX {C : Cx} {env : Env} {ρ : Rho} {H : Hp} {s : Shared} {R : V → Rho → Hp → Prop} (S : SimL C env ρ H s) {e : Value} {s' : Shared} (p : Post C H s.heap VRel (fun v H' => R v ρ H') e s') : PostX C env H s.heap R e s' :=
  let ⟨v, H', q, S', r, E⟩ := p; ⟨v, ρ, H', q, r, S.ext S' E, E.toF⟩

variable {C : Cx} {k : Nat} {env : Env} {ρ : Rho} {H : Hp} {Q : Fl → Rho → Hp → Prop} {R : V → Rho → Hp → Prop}

theorem ExecsW.nil (h : Q .next ρ H) : ExecsW C k env [] Q R ρ H := fun A a s S => wpAny_execs_nil ⟨.next, ρ, H, h, trivial, S, ExtF.refl _ _ _⟩

/-- behind a statement -/
def Cont (C : Cx) (k : Nat) (env : Env) (rest : List Stmt) (Q : Fl → Rho → Hp → Prop) (R : V → Rho → Hp → Prop) : Fl → Rho → Hp → Prop
  | .next, ρ, H => ExecsW C k env rest Q R ρ H
  | f, ρ, H => Q f ρ H

theorem ExecsW.cons {st rest} (h : ExecW C k env st (Cont C k env rest Q R) R ρ H) : ExecsW C k env (st :: rest) Q R ρ H := fun A a s S => by
  refine wpAny_execs_cons (wpAny_mono (h A a s S) ?_ fun _ _ x => x)
  rintro f s' ⟨fl, ρ', H', q, r, S', E⟩
  cases fl <;> cases f <;> first | exact r.elim | skip
  · exact wpAny_mono (q A a s' S') (fun _ _ p => p.after E) fun _ _ p => p.after E
  · exact ⟨.brk, ρ', H', q, r, S', E⟩
  · exact ⟨.cont, ρ', H', q, r, S', E⟩
  · exact ⟨.ret _, ρ', H', q, r, S', E⟩

theorem ExecW.ret {e p} (h : EvalW C k env e (fun v H' => Q (.ret v) ρ H') (fun v H' => R v ρ H') ρ H) : ExecW C k env (.Return (some e) p) Q R ρ H := fun A a s S =>
  wpAny_Return_some (wpAny_mono (h A a s S) (fun x s' ⟨v, H', q, S', r, E⟩ => ⟨.ret v, ρ, H', q, r, S.ext S' E, E.toF⟩) fun _ _ p => p.toX S)
theorem ExecW.if_ {t b o p} (h : TestW C k env t (fun c H' => if c = true then ExecsW C k env b Q R ρ H' else ExecsW C k env o Q R ρ H') (fun v H' => R v ρ H') ρ H) : ExecW C k env (.If t b o p) Q R ρ H := fun A a s S => by
  refine wpAny_If (wpAny_mono (h A a s S) ?_ fun _ _ p => p.toX S)
  rintro c s' ⟨c', H', q, S', rfl, E⟩
  cases c'
  · simp only [Bool.false_eq_true, if_false] at q ⊢; exact wpAny_mono (q A a s' (S.ext S' E)) (fun _ _ p => p.after E.toF) fun _ _ p => p.after E.toF
  · simp only [if_true] at q ⊢; exact wpAny_mono (q A a s' (S.ext S' E)) (fun _ _ p => p.after E.toF) fun _ _ p => p.after E.toF

/-- storing a name -/
theorem store_local {A : Around} {E : Value → Shared → Prop} {x : Str} {v : V} {u : Value} {s : Shared} {P : Unit → Shared → Prop} (hk : env.kindOf x = some .local) (S : SimL C env ρ H s) (r : VRel s.heap H v u)
    (h : ∀ s', SimL C env (ρ.set x v) H s' → ExtF env H s.heap H s'.heap → (∀ a o, a ≠ env.locals → s.heap.get? a = some o → s'.heap.get? a = some o) → s'.gens = s.gens → P () s') : wpAny C.M A (storeName env x u) P E s := by
  obtain ⟨m, cm, F, rr⟩ := S.frm
  refine wpAny_storeName_local hk F.ns (fun h' hn hs => ?_) (by rw [S.kind]; rfl)
  obtain ⟨oL, eL, nL⟩ := ns_noseq F.ns
  have hk' : ∀ a o, a ≠ env.locals → s.heap.get? a = some o → h'.get? a = some o := fun a o n e => hs.extBut a o n e
  have S1 : Sim C H { s with heap := h', toks := s.toks + 1 } := S.sim.touch (s' := { s with heap := h', toks := s.toks + 1 }) eL nL F.own F.above hk' rfl rfl
  have V1 : ExtV H s.heap H h' := ExtV.but eL nL hk'
  obtain ⟨oL', eL', _⟩ := ns_noseq hn
  refine h _ ⟨S1, S.kind, S.globals, S.builtins, _, cm, ⟨hn, fun n c e => ?_, F.own, F.ownc, F.above, F.abovec, F.apart⟩, fun y w e => ?_⟩ ⟨fun a o e _ n _ => hk' a o n e, fun a o e n => n, fun a o e => ?_⟩ hk' rfl
  · have := F.cell n c e
    refine this.sameBut hs fun q => ?_
    obtain ⟨oc, ec, dc⟩ := this
    subst q; obtain ⟨o, es, ep, e1, d1, _⟩ := F.ns; rw [e1] at ec; cases ec; rw [d1] at dc; cases dc
  · unfold Rho.set at e
    unfold LocRel
    by_cases q : y = x
    · subst q
      rw [if_pos rfl] at e; cases e
      rw [hk]; exact ⟨u, by simp, r.extV V1⟩
    · rw [if_neg q] at e
      have := (rr y w e).extV V1
      unfold LocRel at this
      split at this
      · obtain ⟨u', a, b⟩ := this; exact ⟨u', by simp [q, a], b⟩
      · exact this
      · exact this
      · trivial
  · by_cases q : a = env.locals
    · subst q; exact ⟨oL', eL'⟩
    · exact ⟨o, hk' a o q e⟩
theorem store_cell {A : Around} {E : Value → Shared → Prop} {x : Str} {v : V} {u : Value} {s : Shared} {P : Unit → Shared → Prop} (hk : env.kindOf x = some .cell) (hc : (env.cells.lookup x).isSome = true) (S : SimL C env ρ H s) (r : VRel s.heap H v u)
    (h : ∀ s', SimL C env (ρ.set x v) H s' → ExtF env H s.heap H s'.heap → (∀ a o, (∀ n, env.cells.lookup n ≠ some a) → s.heap.get? a = some o → s'.heap.get? a = some o) → s'.gens = s.gens → P () s') : wpAny C.M A (storeName env x u) P E s := by
  obtain ⟨m, cm, F, rr⟩ := S.frm
  obtain ⟨c, hc⟩ := Option.isSome_iff_exists.mp hc
  refine wpAny_storeName_cell S.kind hk hc (F.cell x c hc) (fun h' hn hs => ?_)
  obtain ⟨oL, eL, nL⟩ := cell_noseq (F.cell x c hc)
  have hk' : ∀ a o, a ≠ c → s.heap.get? a = some o → h'.get? a = some o := fun a o n e => hs.extBut a o n e
  have S1 : Sim C H { s with heap := h' } := S.sim.touch (s' := { s with heap := h' }) eL nL (F.ownc x c hc) (F.abovec x c hc) hk' rfl rfl
  have V1 : ExtV H s.heap H h' := ExtV.but eL nL hk'
  obtain ⟨oL', eL', _⟩ := cell_noseq hn
  refine h _ ⟨S1, S.kind, S.globals, S.builtins, m, fun y => if y = x then some u else cm y, ⟨?_, fun n c' e => ?_, F.own, F.ownc, F.above, F.abovec, F.apart⟩, fun y w e => ?_⟩ ⟨fun a o e _ _ n => hk' a o (fun q => n x (q ▸ hc)) e, fun a o e n => n, fun a o e => ?_⟩ (fun a o n e => hk' a o (fun q => n x (q ▸ hc)) e) rfl
  · refine F.ns.sameBut hs fun q => ?_
    obtain ⟨oc, ec, dc⟩ := F.cell x c hc
    obtain ⟨o, es, ep, e1, d1, _⟩ := F.ns; rw [← q, e1] at ec; cases ec; rw [d1] at dc; cases dc
  · by_cases q : n = x
    · subst q; rw [hc] at e; cases e; simpa using hn
    · rw [if_neg q]
      exact (F.cell n c' e).sameBut hs fun q' => q (F.apart n x c (q' ▸ e) hc)
  · unfold Rho.set at e
    unfold LocRel
    by_cases q : y = x
    · subst q
      rw [if_pos rfl] at e; cases e
      rw [hk]; exact ⟨u, c, hc, by simp, r.extV V1⟩
    · rw [if_neg q] at e
      have := (rr y w e).extV V1
      unfold LocRel at this
      split at this
      · exact this
      · obtain ⟨u', c', a, b, d⟩ := this; exact ⟨u', c', a, by simp [q, b], d⟩
      · obtain ⟨u', c', a, b, d⟩ := this; exact ⟨u', c', a, by simp [q, b], d⟩
      · trivial
  · by_cases q : a = c
    · subst q; exact ⟨oL', eL'⟩
    · exact ⟨o, hk' a o q e⟩

/-- a name that a frame can store -/
def Storable (env : Env) (x : Str) : Prop := env.kindOf x = some .local ∨ (env.kindOf x = some .cell ∧ (env.cells.lookup x).isSome = true)
theorem store_W {A : Around} {E : Value → Shared → Prop} {x : Str} {v : V} {u : Value} {s : Shared} {P : Unit → Shared → Prop} (hk : Storable env x) (S : SimL C env ρ H s) (r : VRel s.heap H v u)
    (h : ∀ s', SimL C env (ρ.set x v) H s' → ExtF env H s.heap H s'.heap → s'.gens = s.gens → P () s') : wpAny C.M A (storeName env x u) P E s := by
  rcases hk with hk | ⟨hk, hc⟩
  · exact store_local hk S r fun s' a b _ d => h s' a b d
  · exact store_cell hk hc S r fun s' a b _ d => h s' a b d

theorem ExecW.assign {x p' e p} (hk : Storable env x) (h : EvalW C k env e (fun v H' => Q .next (ρ.set x v) H') (fun v H' => R v ρ H') ρ H)
    (hs : swapsWith e (some (.Name x p')) p.line env = pure false := by rfl) : ExecW C k env (.Assign [.Name x p'] e p) Q R ρ H := fun A a s S => by
  refine wpAny_Assign_Name (wpAny_mono (h A a s S) ?_ fun _ _ p => p.toX S) hs
  rintro u s' ⟨v, H', q, S', r, E⟩
  exact store_W hk (S.ext S' E) r fun s'' S'' E'' _ => ⟨.next, _, H', q, trivial, S'', E.toF.trans E''⟩

end Mine

set_option Elab.async false
set_option linter.unusedVariables false
namespace Mine
open PySem PyProof.Rows

/-- nothing old is changed; new objects may come -/
theorem Sim.grown {C : Cx} {H : Hp} {s s' : Shared} (S : Sim C H s) (hk : ∀ a o, s.heap.get? a = some o → s'.heap.get? a = some o) (hg : s'.gens = s.gens) (ho : s'.os = s.os) : Sim C H s' := by
  refine ⟨fun a o e => hk a o (S.keep a o e), hg.trans S.gens, ho.trans S.os, fun a o e => ?_, S.new⟩
  have r := S.objs a o e
  obtain ⟨ob', e'⟩ := r.lt
  exact r.same (fun a o _ _ e _ n => ⟨hk a o e, n⟩) ((hk a ob' e').trans e'.symm)
theorem Ext.grown {H : Hp} {h h' : Heap} (hk : ∀ a o, h.get? a = some o → h'.get? a = some o) : Ext H h H h' := ⟨fun a o e _ => hk a o e, fun _ _ _ n => n, fun a o e => ⟨o, hk a o e⟩⟩
theorem Sim.freshB {C : Cx} {H : Hp} {s : Shared} (S : Sim C H s) {a : Addr} (h : s.heap.objs.size ≤ a) : C.base.get? a = none := by
  cases e : C.base.get? a with
  | none => rfl
  | some o => exact absurd (Heap.lt_size (S.keep a o e)) (Nat.not_lt.mpr h)
theorem Sim.freshS {C : Cx} {H : Hp} {s : Shared} (S : Sim C H s) {a : Addr} (h : s.heap.objs.size ≤ a) : a ≠ sysModules := by
  obtain ⟨o, e⟩ := C.low
  have h1 := Heap.lt_size (S.keep _ _ e)
  have h2 : sysModules < cStatics := by decide
  intro q
  rw [q] at h
  exact absurd (Nat.lt_of_lt_of_le (Nat.lt_trans h2 h1) h) (Nat.lt_irrefl _)
theorem Sim.fresh {C : Cx} {H : Hp} {s : Shared} (S : Sim C H s) {a : Addr} (h : s.heap.objs.size ≤ a) : H a = none := by
  cases e : H a with
  | none => rfl
  | some o => obtain ⟨ob, e'⟩ := (S.objs a o e).lt; exact absurd (Heap.lt_size e') (Nat.not_lt.mpr h)

/-- re-abstraction: objects are let go of (frozen) -/
def Fz (H : Hp) (v v' : V) (H' : Hp) : Prop := (∀ a, H a = none → H' a = none) ∧ ∀ (C : Cx) (s : Shared) (x : Value), Sim C H s → VRel s.heap H v x → Sim C H' s ∧ VRel s.heap H' v' x
theorem Fz.refl {H v} : Fz H v v H := ⟨fun _ e => e, fun _ _ _ S r => ⟨S, r⟩⟩
def Hp.le (H' H : Hp) : Prop := ∀ a o, H' a = some o → H a = some o
theorem Hp.le.none {H H' : Hp} (h : H'.le H) (a : Addr) (e : H a = Option.none) : H' a = Option.none := by
  cases q : H' a with
  | none => rfl
  | some o => rw [h a o q] at e; cases e
theorem ExtV.of_le {H H' : Hp} (h : H'.le H) (hp : Heap) : ExtV H hp H' hp := fun a o _ _ e _ n => ⟨e, h.none a n⟩
theorem Sim.le {C H H' s} (S : Sim C H s) (h : Hp.le H' H) : Sim C H' s :=
  ⟨S.keep, S.gens, S.os, fun a o e => (S.objs a o (h a o e)).same (ExtV.of_le h _) rfl, fun a e => S.new a fun q => e (h.none a q)⟩

mutual
inductive FzR (H : Hp) (D : Addr → Prop) : V → V → Prop
  | refl (v : V) : FzR H D v v
  | tup {l l' : List V} (h : FzRL H D l l') : FzR H D (.tup l) (.tup l')
  | lst {l l' : List V} (h : FzRL H D l l') : FzR H D (.lst l) (.lst l')
  | thaw {a : Addr} {l l' : List V} (hD : D a) (ha : H a = some (.list l)) (h : FzRL H D l l') : FzR H D (.ref a) (.lst l')
inductive FzRL (H : Hp) (D : Addr → Prop) : List V → List V → Prop
  | nil : FzRL H D [] []
  | cons {v v' : V} {l l' : List V} (h : FzR H D v v') (hl : FzRL H D l l') : FzRL H D (v :: l) (v' :: l')
end
mutual
theorem FzR.sound {C : Cx} {H H' : Hp} {D : Addr → Prop} {s : Shared} (S : Sim C H s) (hle : Hp.le H' H) (hD : ∀ a, D a → H' a = none) : ∀ {v v'}, FzR H D v v' → ∀ {x}, VRel s.heap H v x → VRel s.heap H' v' x
  | _, _, .refl v, x, r => r.extV (ExtV.of_le hle _)
  | _, _, .tup h, _, .tup ha ho hl => .tup ha (hle.none _ ho) (FzRL.sound S hle hD h hl)
  | _, _, .lst h, _, .lst ha ho hl => .lst ha (hle.none _ ho) (FzRL.sound S hle hD h hl)
  | _, _, .thaw (a := b) d ha h, x, rx => by
    obtain ⟨xs, e, r⟩ := S.objs _ _ ha
    have hx : x = .ref b := by cases rx; rfl
    subst hx
    exact .lst e.isList (hD _ d) (FzRL.sound S hle hD h r)
theorem FzRL.sound {C : Cx} {H H' : Hp} {D : Addr → Prop} {s : Shared} (S : Sim C H s) (hle : Hp.le H' H) (hD : ∀ a, D a → H' a = none) : ∀ {v v'}, FzRL H D v v' → ∀ {x}, VRelL s.heap H v x → VRelL s.heap H' v' x
  | _, _, .nil, _, .nil => .nil
  | _, _, .cons h hl, _, .cons r rl => .cons (FzR.sound S hle hD h r) (FzRL.sound S hle hD hl rl)
end
theorem Fz.of {H H' : Hp} {D : Addr → Prop} {v v' : V} (r : FzR H D v v') (hle : Hp.le H' H) (hD : ∀ a, D a → H' a = none) : Fz H v v' H' :=
  ⟨hle.none, fun C s x S rx => ⟨S.le hle, r.sound S hle hD rx⟩⟩
abbrev SpecT := List V → (V → Hp → Prop) → (V → Hp → Prop) → Hp → Prop

def PostC (C : Cx) (H : Hp) (h : Heap) (Q R : V → Hp → Prop) : Result → Shared → Prop := fun r s' => match r with
  | .ok (.ret x) => Post C H h VRel Q x s'
  | .ok _ => False
  | .error e => Post C H h VRel R e s'

def FnOK (C : Cx) (k : Nat) (f : Value) (S : SpecT) : Prop :=
  ∀ A, Lv C k A → ∀ s H args xs Q R, Sim C H s → VRelL s.heap H args xs → S args Q R H → codeAny C.M A (.call f ⟨xs, []⟩) (PostC C H s.heap Q R) s

theorem FnOK.call {C k f S} (h : FnOK C k f S) {args Q R H} (hs : S args Q R H) : CallW C k f args Q R H := fun A a s xs Sm r => by
  refine wpAny_call (codeAny_mono (h A a s H args xs Q R Sm r hs) fun r s' p => ?_)
  rcases r with e | (_ | _ | _ | v) <;> first | exact p | exact p.elim

def bindRho (ρ : Rho) : List Str → List V → Rho
  | n :: ns, v :: vs => bindRho (ρ.set n v) ns vs
  | _, _ => ρ

structure FnDef (C : Cx) (a : Addr) (fd : FuncData) (names : List Str) (body : List Stmt) : Prop where
  obj : ∃ o, C.base.get? a = some o ∧ o.data = .func fd
  limit : C.base.NoLimit
  code : C.base.CodeRec fd.code fd.qualname
  body : fd.body = .stmts body
  closure : fd.closure = []
  globals : fd.globals = mainGlobals
  builtins : fd.builtins = builtinsNs
  co : fd.scope.isCoroutine = false
  gen : fd.scope.isGenerator = false
  kind : fd.scope.kind = .function
  bind : ∀ vals : List Value, vals.length = names.length → bindArgs fd ⟨vals, []⟩ = pure (names.zip vals)
  kinds : ∀ n ∈ names, fd.scope.names.lookup n = some .local ∨ fd.scope.names.lookup n = some .cell

theorem cellsFrom_isSome : ∀ (names : List (Str × NameKind)) (n : Nat) (acc : List (Str × Addr)) (x : Str), (names.lookup x = some .cell ∨ (acc.lookup x).isSome = true) → ((cellsFrom n names acc).lookup x).isSome = true
  | [], n, acc, x, h => by rcases h with h | h; · cases h
                           · exact h
  | (y, kd) :: r, n, acc, x, h => by
    unfold cellsFrom
    rw [List.lookup_cons] at h
    split
    · rename_i hk
      refine cellsFrom_isSome r (n + 1) _ x ?_
      rw [List.lookup_cons]
      by_cases q : (x == y) = true
      · rw [q]; exact .inr rfl
      · have q' : (x == y) = false := by simpa using q
        rw [q'] at h ⊢; exact h
    · rename_i hk
      refine cellsFrom_isSome r n _ x ?_
      by_cases q : (x == y) = true
      · rw [q] at h
        rcases h with h | h
        · simp only [Option.some.injEq] at h; rw [h] at hk; simp at hk
        · exact .inr h
      · have q' : (x == y) = false := by simpa using q
        rw [q'] at h; exact h

/-- a frame of this def -/
structure EnvOf (fd : FuncData) (env : Env) : Prop where
  scope : env.scope = fd.scope
  cells : ∀ x, env.kindOf x = some .cell → (env.cells.lookup x).isSome = true

theorem bind_rel {h : Heap} {H : Hp} {env : Env} : ∀ (names : List Str) (args : List V) (vals : List Value), VRelL h H args vals → ∀ (ρ : Rho) (m cm : Str → Option Value), (∀ n ∈ names, env.kindOf n = some .local ∨ (env.kindOf n = some .cell ∧ (env.cells.lookup n).isSome = true)) →
    (∀ x v, ρ x = some v → LocRel h H env m cm x v) → ∀ x v, bindRho ρ names args x = some v → LocRel h H env (bindL env.kindOf (names.zip vals) m) (bindC env.kindOf (names.zip vals) cm) x v
  | [], args, vals, r, ρ, m, cm, hk, h0, x, v, e => by cases args <;> exact h0 x v e
  | n :: ns, [], _, .nil, ρ, m, cm, hk, h0, x, v, e => h0 x v e
  | n :: ns, a :: as, u :: us, .cons ru rs, ρ, m, cm, hk, h0, x, v, e => by
    rw [List.zip_cons_cons]
    unfold bindL bindC
    refine bind_rel ns as us rs (ρ.set n a) _ _ (fun y hy => hk y (.tail _ hy)) ?_ x v e
    intro y w ey
    unfold Rho.set at ey
    have hn := hk n (.head _)
    by_cases q : y = n
    · subst q
      rw [if_pos rfl] at ey; cases ey
      unfold LocRel
      rcases hn with hn | ⟨hn, hc⟩
      · rw [hn]; simp only [if_true]; exact ⟨u, by simp, ru⟩
      · rw [hn]
        obtain ⟨c, hc⟩ := Option.isSome_iff_exists.mp hc
        simp only [Option.some.injEq, reduceCtorEq, if_false]
        exact ⟨u, c, hc, by simp, ru⟩
    · rw [if_neg q] at ey
      have := h0 y w ey
      unfold LocRel at this ⊢
      split at this
      · rename_i hy
        obtain ⟨u', a', b'⟩ := this
        refine ⟨u', ?_, b'⟩
        split
        · simp [q, a']
        · exact a'
      · obtain ⟨u', c', a', b', d'⟩ := this
        refine ⟨u', c', a', ?_, d'⟩
        split
        · exact b'
        · simp [q, b']
      · obtain ⟨u', c', a', b', d'⟩ := this
        refine ⟨u', c', a', ?_, d'⟩
        split
        · exact b'
        · simp [q, b']
      · trivial

def Fl.val : Fl → V
  | .ret v => v
  | _ => .none

def RetQ (Q : V → Hp → Prop) : Fl → Rho → Hp → Prop := fun fl _ H => ∃ v' H', Fz H fl.val v' H' ∧ Q v' H'

theorem FlRel.val {h : Heap} {H : Hp} : ∀ {fl : Fl} {f : Flow}, FlRel h H fl f → VRel h H fl.val (match f with | .ret v => v | _ => .none)
  | .next, .next, _ => .none
  | .brk, .brk, _ => .none
  | .cont, .cont, _ => .none
  | .ret _, .ret _, r => r

theorem FnOK.of_def {C : Cx} {k : Nat} {a : Addr} {fd : FuncData} {names : List Str} {body : List Stmt} {S : SpecT} (D : FnDef C a fd names body)
    (h : ∀ args Q R H, S args Q R H → args.length = names.length ∧ ∀ L, ExecsW C k (callEnvC fd L a) body (RetQ Q) (fun _ _ _ => False) (bindRho (fun _ => none) names args) H) :
    FnOK C (k + 1) (.ref a) S := by
  intro A lv s H args xs Q R Sm rel hs
  obtain ⟨hlen, hb⟩ := h args Q R H hs
  obtain ⟨o, ho, hd⟩ := D.obj
  have hxl : xs.length = names.length := rel.length.trans hlen
  have hkinds : ∀ x ∈ names.zip xs, fd.scope.names.lookup x.1 = some .local ∨ (fd.scope.names.lookup x.1 = some .cell ∧ ((cellsFrom (s.heap.objs.size + 1) fd.scope.names []).lookup x.1).isSome = true) := by
    intro x hx
    rcases D.kinds x.1 (List.of_mem_zip (a := x.1) (b := x.2) hx).1 with q | q
    · exact .inl q
    · exact .inr ⟨q, cellsFrom_isSome _ _ _ _ (.inl q)⟩
  refine codeAny_call_cells (by have := lv.depth; omega) (Sm.keep _ _ ho) hd (D.limit.keeps Sm.keep) (D.code.keeps Sm.keep) D.body (D.bind xs hxl) D.closure hkinds (fun s₁ X => ?_) D.co D.gen D.kind
  have hkeep := X.toInCall.keep
  obtain ⟨h₁, tk, e₁, _⟩ := X.done
  have E₁ : Ext H s.heap H s₁.heap := Ext.grown hkeep
  have S₁ : Sim C H s₁ := Sm.grown hkeep (by rw [e₁]) (by rw [e₁])
  have EO : EnvOf fd (callEnvC fd s.heap.objs.size a) := ⟨rfl, fun x hx => cellsFrom_isSome _ _ _ _ (.inl hx)⟩
  have SL : SimL C (callEnvC fd s.heap.objs.size a) (bindRho (fun _ => none) names args) H s₁ := by
    refine ⟨S₁, D.kind, D.globals, D.builtins, _, _, ⟨X.toInCall.ns, X.cell, Sm.fresh (Nat.le_refl _), fun n c e => Sm.fresh ?_, Sm.freshB (Nat.le_refl _), fun n c e => Sm.freshB ?_, fun n n' c e e' => name_of_addr X.apart (mem_of_lookup e) (mem_of_lookup e')⟩, ?_⟩
    · exact Nat.le_of_lt (X.above n c (mem_of_lookup e))
    · exact Nat.le_of_lt (X.above n c (mem_of_lookup e))
    · refine bind_rel names args xs (rel.ext E₁) _ _ _ (fun n hn => ?_) (fun x v e => by cases e)
      rcases D.kinds n hn with q | q
      · exact .inl q
      · exact .inr ⟨q, EO.cells n q⟩
  have lv' : Lv C k (A.deeper (callEnvC fd s.heap.objs.size a)) := ⟨fun e => lv.handled e, by have := lv.depth; show A.depth + 1 + 2 * k + 100 < _; omega, by have := lv.units; show A.units + 3 + 40 * k + 100 < _; omega⟩
  refine wpAny_mono (hb _ _ lv' s₁ SL) ?_ ?_
  · rintro f s' ⟨fl, ρ', H', ⟨v', H'', fz, q⟩, r, S', E'⟩
    have E'' : Ext H s.heap H' s'.heap := by
      refine ⟨fun b ob e n => E'.keep b ob (hkeep b ob e) n ?_ ?_, fun b ob e n => E'.grow b ob (hkeep b ob e) n, fun b ob e => E'.live b ob (hkeep b ob e)⟩
      · exact Nat.ne_of_lt (Heap.lt_size e)
      · intro n' e'
        have h1 := X.above n' b (mem_of_lookup e')
        have h2 := Heap.lt_size e
        exact absurd (Nat.lt_trans (show s.heap.objs.size < b from h1) h2) (Nat.lt_irrefl _)
    have rv := r.val
    obtain ⟨S'', r''⟩ := fz.2 C s' _ S'.sim rv
    exact ⟨v', H'', q, S'', r'', ⟨E''.keep, fun b ob e n => fz.1 b (E''.grow b ob e n), E''.live⟩⟩
  · rintro e s' ⟨_, _, _, q, _⟩; exact q.elim

end Mine

set_option Elab.async false
set_option linter.unusedVariables false
namespace Mine
open PySem PyProof.Rows

def ArgsW (C : Cx) (k : Nat) (env : Env) (es : List Expr) (Q : List V → Hp → Prop) (R : V → Hp → Prop) (ρ : Rho) (H : Hp) : Prop :=
  ∀ A, Lv C k A → ∀ s, SimL C env ρ H s → ∀ pos, wpAny C.M A (spliced (backTo pos (starEach es env))) (Post C H s.heap VRelL Q) (Post C H s.heap VRel R) s

variable {C : Cx} {k : Nat} {env : Env} {ρ : Rho} {H : Hp} {Q R : V → Hp → Prop} {QL : List V → Hp → Prop}

theorem ArgsW.nil (h : QL [] H) : ArgsW C k env [] QL R ρ H := fun A a s S pos => args_nil (Post.here h S.sim .nil rfl)
theorem ArgsW.cons {e rest} (h : EvalW C k env e (fun v H₁ => ArgsW C k env rest (fun vs H₂ => QL (v :: vs) H₂) R ρ H₁) R ρ H)
    (he : starEach (e :: rest) env = (false, eval e env) :: starEach rest env := by rfl) : ArgsW C k env (e :: rest) QL R ρ H := fun A a s S pos => by
  refine args_cons ?_ he
  refine wp_go (h A a s S) fun x v H₁ s₁ h₁ S₁ r₁ E₁ => wp_go (h₁ A a s₁ (S.ext S₁ E₁) pos) (fun xs vs H₂ s₂ h₂ S₂ r₂ E₂ => ?_) fun _ _ p => p.after E₁
  exact ⟨_, H₂, h₂, S₂, .cons (r₁.ext E₂) r₂, E₁.trans E₂⟩

theorem evalArgs_any {M : Model} {A : Around} {E : Value → Shared → Prop} {s : Shared} {f : Value} {args : List (Bool × Sem Value)} {Q : Args → Shared → Prop} (hplain : args.any (·.1) = false)
    (h : wpAny M A (spliced args) (fun vs s' => Q ⟨vs, []⟩ s') E s) : wpAny M A (evalArgs f true args []) Q E s := by
  cases args with
  | nil =>
    unfold evalArgs
    show wpAny M A (spliced [] >>= _) Q E s
    refine wpAny_bind (wpAny_mono h (fun vs s' h' => ?_) fun _ _ x => x)
    refine wpAny_holding ?_
    exact wpAny_bind (wpAny_pure (wpAny_bind (wpAny_pure (wpAny_pure h'))))
  | cons x rest =>
    obtain ⟨b, x⟩ := x
    have : b = false := by simp at hplain; exact hplain.1
    subst this
    exact Calls.evalArgs_plain h

/-- a callee that a plain call reaches: its arguments, then the call -/
def Plainly (C : Cx) (f : Value) : Prop :=
  ∀ (A : Around) (E : Value → Shared → Prop) (Q : Value → Shared → Prop) (s : Shared) (first : List Value) (pos : Pos) (args : List (Bool × Sem Value)), args.any (·.1) = false →
    wpAny C.M A (spliced args) (fun vs s₁ => (∀ b o, C.base.get? b = some o → s₁.heap.get? b = some o) ∧ wpAny C.M A (call f (first ++ vs)) Q E s₁) E s → wpAny C.M A (callWith pos f first args []) Q E s
theorem Plainly.builtin (id : String) : Plainly C (.builtin id) := fun A E Q s first pos args hp h =>
  Calls.callWith_builtin hp (evalArgs_any hp (wpAny_mono h (fun _ _ x => x.2) fun _ _ x => x))
theorem Plainly.type (T : String) : Plainly C (.type T) := fun A E Q s first pos args hp h =>
  PySem.callWith_type hp (evalArgs_any hp (wpAny_mono h (fun _ _ x => x.2) fun _ _ x => x))
theorem Plainly.fn {a : Addr} {o : Obj} {fd : FuncData} (ho : C.base.get? a = some o) (hd : o.data = .func fd) : Plainly C (.ref a) := fun A E Q s first pos args hp h =>
  Calls.callWith_function (o := o) (fd := fd) (evalArgs_any hp (wpAny_mono h (fun _ _ x => ⟨⟨x.1 _ _ ho, hd⟩, x.2⟩) fun _ _ x => x))
theorem backTo_plain {pos : Pos} : ∀ {l : List (Bool × Sem Value)}, l.any (·.1) = false → (backTo pos l).any (·.1) = false
  | [], _ => rfl
  | (b, t) :: r, h => by
    have h' : (b || r.any (·.1)) = false := h
    have hb : b = false := by revert h'; cases b <;> simp
    subst hb
    show (false || (backTo pos r).any (·.1)) = false
    rw [backTo_plain (by simpa using h')]; rfl

theorem EvalW.call {f args pos} (h : EvalW C k env f (fun v H₁ => ∃ u, v = .con u ∧ Plainly C u ∧ ArgsW C k env args (fun vs H₂ => CallW C k u vs Q R H₂) R ρ H₁) R ρ H)
    (he : eval (.Call f args [] pos) env = (do callWith pos (← eval f env) [] (backTo pos (starEach args env)) (backToKw pos (keywordEach [] env))) := by rfl)
    (hp : (starEach args env).any (·.1) = false := by rfl) : EvalW C k env (.Call f args [] pos) Q R ρ H := fun A a s S => by
  refine Call_ (wp_go (h A a s S) fun x v H₁ s₁ h₁ S₁ r₁ E₁ => ?_) he
  obtain ⟨u, rfl, pl, h₁⟩ := h₁
  have hx : x = u := by cases r₁; rfl
  subst hx
  refine pl A _ _ s₁ [] pos _ (backTo_plain hp) (wp_go (h₁ A a s₁ (S.ext S₁ E₁) pos) (fun xs vs H₂ s₂ h₂ S₂ r₂ E₂ => ⟨S₂.keep, ?_⟩) fun _ _ p => p.after E₁)
  exact wp_fin (E₁.trans E₂) (h₂ A a s₂ xs S₂ r₂)

/-- the usual form: a global name is called -/
theorem EvalW.callName {x p args pos f} (g : GlobalV C x (.con f)) (pl : Plainly C f) (hk : env.kindOf x = some .globalImplicit) (h : ArgsW C k env args (fun vs H₂ => CallW C k f vs Q R H₂) R ρ H)
    (hd : (x == ("__debug__" : Str)) = false := by decide) (hp : (starEach args env).any (·.1) = false := by rfl) : EvalW C k env (.Call (.Name x p) args [] pos) Q R ρ H :=
  EvalW.call (EvalW.global g ⟨f, rfl, pl, h⟩ hk hd) rfl hp

/-- the method that a value has -/
def MethIs (C : Cx) (H : Hp) (v : V) (name : Str) (f : Value) : Prop :=
  ∀ (A : Around) (s : Shared) (x : Value) (pl : Sem Bool) (Q : Value × List Value → Shared → Prop) (E : Value → Shared → Prop), Sim C H s → VRel s.heap H v x → Q (f, [x]) s → wpAny C.M A (getMethod x name pl) Q E s

theorem EvalW.method {o name apos args pos pl} (h : EvalW C k env o (fun v H₁ => ∃ f, MethIs C H₁ v name f ∧ Plainly C f ∧ ArgsW C k env args (fun vs H₂ => CallW C k f (v :: vs) Q R H₂) R ρ H₁) R ρ H)
    (he : eval (.Call (.Attribute o name apos) args [] pos) env = (do
      let ov ← eval o env
      standAt apos.atName
      let (f, first) ← holding [ov] (getMethod ov name pl)
      callWith pos f first (backTo pos (starEach args env)) []) := by rfl)
    (hp : (starEach args env).any (·.1) = false := by rfl) : EvalW C k env (.Call (.Attribute o name apos) args [] pos) Q R ρ H := fun A a s S => by
  refine MethodCall_ (pl := pl) (wp_go (h A a s S) fun x v H₁ s₁ h₁ S₁ r₁ E₁ => ?_) he
  obtain ⟨f, hm, hpl, h₁⟩ := h₁
  refine hm A s₁ x _ _ _ S₁ r₁ ?_
  refine hpl A _ _ s₁ [x] pos _ (backTo_plain hp) (wp_go (h₁ A a s₁ (S.ext S₁ E₁) pos) (fun xs vs H₂ s₂ h₂ S₂ r₂ E₂ => ⟨S₂.keep, ?_⟩) fun _ _ p => p.after E₁)
  exact wp_fin (E₁.trans E₂) (h₂ A a s₂ (x :: xs) S₂ (.cons (r₁.ext E₂) r₂))

/-- a tuple display; a list display -/
theorem EvalW.tuple {es n p} (h : ArgsW C k env es (fun vs H₁ => Q (.tup vs) H₁ ∧ vs.length ≤ 1000) R ρ H) : EvalW C k env (.Tuple es n p) Q R ρ H := fun A a s S => by
  refine Tuple_ (wp_go (h A a s S p) fun xs vs H₁ s₁ h₁ S₁ r₁ E₁ => ?_)
  have e1 : xs.length = vs.length := r₁.length
  have hk : ∀ b o, s₁.heap.get? b = some o → (s₁.heap.push { cls := .type "tuple", data := .seq xs.toArray }).get? b = some o := fun b o e => Heap.get?_push_of_some _ e
  refine wpAny_newObj_type (?_) (by show xs.toArray.size ≤ sizeLine; rw [List.size_toArray, e1]; exact Nat.le_trans h₁.2 (by decide))
  refine ⟨.tup vs, H₁, h₁.1, S₁.grown (s' := { s₁ with heap := s₁.heap.push _ }) hk rfl rfl, .tup ⟨_, Heap.get?_push_size _ rfl, rfl, _, rfl⟩ (S₁.fresh (Nat.le_refl _)) (r₁.ext (Ext.grown hk)), E₁.trans (Ext.grown hk)⟩

/-- a new owned object -/
theorem Sim.alloc {C : Cx} {H : Hp} {s s' : Shared} {o : O} (S : Sim C H s) (hk : ∀ a o, s.heap.get? a = some o → s'.heap.get? a = some o) (hg : s'.gens = s.gens) (ho : s'.os = s.os)
    (hr : ORel C s'.heap (H.set s.heap.objs.size o) s.heap.objs.size o) : Sim C (H.set s.heap.objs.size o) s' ∧ Ext H s.heap (H.set s.heap.objs.size o) s'.heap := by
  have E : Ext H s.heap (H.set s.heap.objs.size o) s'.heap := by
    refine ⟨fun a ob e _ => hk a ob e, fun a ob e n => ?_, fun a ob e => ⟨ob, hk a ob e⟩⟩
    unfold Hp.set
    rw [if_neg (Nat.ne_of_lt (Heap.lt_size e))]; exact n
  refine ⟨⟨fun a o e => hk a o (S.keep a o e), hg.trans S.gens, ho.trans S.os, fun a o' e => ?_, fun a e => ?_⟩, E⟩
  · unfold Hp.set at e
    split at e
    · rename_i q; subst q; cases e; exact hr
    · have r := S.objs a o' e
      obtain ⟨ob', e'⟩ := r.lt
      exact r.same E.v ((hk a ob' e').trans e'.symm)
  · unfold Hp.set at e
    split at e
    · rename_i q; subst q; exact ⟨S.freshB (Nat.le_refl _), S.freshS (Nat.le_refl _)⟩
    · exact S.new a e

theorem newList_W {A : Around} {xs : List Value} {vs : List V} {s : Shared} {E : Value → Shared → Prop} {P : Value → Shared → Prop} (S : Sim C H s) (r : VRelL s.heap H vs xs) (hn : vs.length ≤ 1000)
    (h : ∀ a s', H a = none → Sim C (H.set a (.list vs)) s' → Ext H s.heap (H.set a (.list vs)) s'.heap → P (.ref a) s') : wpAny C.M A (newList xs) P E s := by
  have e1 : xs.length = vs.length := r.length
  have hk : ∀ b o, s.heap.get? b = some o → (s.heap.push { cls := .type "list", data := .seq xs.toArray }).get? b = some o := fun b o e => Heap.get?_push_of_some _ e
  refine wpAny_newObj_type (?_) (by show xs.toArray.size ≤ sizeLine; rw [List.size_toArray, e1]; exact Nat.le_trans hn (by decide))
  have E0 : Ext H s.heap (H.set s.heap.objs.size (.list vs)) (s.heap.push { cls := .type "list", data := .seq xs.toArray }) :=
    ⟨fun a ob e _ => hk a ob e, fun a ob e n => by unfold Hp.set; rw [if_neg (Nat.ne_of_lt (Heap.lt_size e))]; exact n, fun a ob e => ⟨ob, hk a ob e⟩⟩
  obtain ⟨S', E'⟩ := S.alloc (s' := { s with heap := s.heap.push { cls := .type "list", data := .seq xs.toArray } }) hk rfl rfl (o := .list vs) ⟨xs.toArray, ⟨_, Heap.get?_push_size _ rfl⟩, by simpa using r.ext E0⟩
  exact h _ _ (S.fresh (Nat.le_refl _)) S' E'
theorem EvalW.list {es p} (h : ArgsW C k env es (fun vs H₁ => vs.length ≤ 1000 ∧ ∀ a, H₁ a = Option.none → Q (.ref a) (H₁.set a (.list vs))) R ρ H) : EvalW C k env (.List es p) Q R ρ H := fun A a s S =>
  List_ (wp_go (h A a s S p) fun xs vs H₁ s₁ h₁ S₁ r₁ E₁ => newList_W S₁ r₁ h₁.1 fun b s' n S' E' => ⟨.ref b, _, h₁.2 b n, S', .ref b, E₁.trans E'⟩)
/-- a list display that nobody will change -/
theorem EvalW.list_fz {es p} (h : ArgsW C k env es (fun vs H₁ => vs.length ≤ 1000 ∧ Q (.lst vs) H₁) R ρ H) : EvalW C k env (.List es p) Q R ρ H := fun A a s S => by
  refine List_ (wp_go (h A a s S p) fun xs vs H₁ s₁ h₁ S₁ r₁ E₁ => ?_)
  have e1 : xs.length = vs.length := r₁.length
  have hk : ∀ b o, s₁.heap.get? b = some o → (s₁.heap.push { cls := .type "list", data := .seq xs.toArray }).get? b = some o := fun b o e => Heap.get?_push_of_some _ e
  refine wpAny_newObj_type (?_) (by show xs.toArray.size ≤ sizeLine; rw [List.size_toArray, e1]; exact Nat.le_trans h₁.1 (by decide))
  refine ⟨.lst vs, H₁, h₁.2, S₁.grown (s' := { s₁ with heap := s₁.heap.push _ }) hk rfl rfl, .lst ⟨_, Heap.get?_push_size _ rfl, rfl, _, rfl⟩ (S₁.fresh (Nat.le_refl _)) (r₁.ext (Ext.grown hk)), E₁.trans (Ext.grown hk)⟩

end Mine

set_option Elab.async false
set_option linter.unusedVariables false
namespace Mine
open PySem PyProof.Rows

/-- all but name tables and cells stays -/
def ExtW (H : Hp) (h : Heap) (H' : Hp) (h' : Heap) : Prop :=
  ∀ a o, h.get? a = some o → H a = none → (∀ es n, o.data ≠ .dict es n) → (∀ v, o.data ≠ .cell v) → h'.get? a = some o ∧ H' a = none
theorem Ext.w {H h H' h'} (E : Ext H h H' h') : ExtW H h H' h' := fun a o e n _ _ => ⟨E.keep a o e n, E.grow a o e n⟩
theorem ExtW.trans {H h H' h' H'' h''} (x : ExtW H h H' h') (y : ExtW H' h' H'' h'') : ExtW H h H'' h'' :=
  fun a o e n d c => let ⟨e1, n1⟩ := x a o e n d c; y a o e1 n1 d c
theorem ExtW.v {H h H' h'} (E : ExtW H h H' h') : ExtV H h H' h' := fun a o xs m e d n => E a o e n (fun _ _ q => by rw [d] at q; cases q) (fun _ q => by rw [d] at q; cases q)
theorem ExtF.w {C : Cx} {env : Env} {ρ : Rho} {H H' : Hp} {s : Shared} {h' : Heap} (S : SimL C env ρ H s) (E : ExtF env H s.heap H' h') : ExtW H s.heap H' h' := fun a o e n d c => by
  obtain ⟨m, cm, F, _⟩ := S.frm
  refine ⟨E.keep a o e n (fun q => ?_) (fun x q => ?_), E.grow a o e n⟩
  · subst q; obtain ⟨oL, es, ep, eL, dL, _⟩ := F.ns; rw [eL] at e; cases e; exact d _ _ dL
  · obtain ⟨oc, ec, dc⟩ := F.cell x a q; rw [ec] at e; cases e; exact c _ dc

/-- records (iterators) were moved on, new objects may have come -/
structure Moved (wr : List Addr) (s s' : Shared) : Prop where
  keep : ∀ b o, b ∉ wr → s.heap.get? b = some o → s'.heap.get? b = some o
  gens : s'.gens = s.gens
  os : s'.os = s.os

structure Tmp (C : Cx) (H : Hp) (wr : List Addr) (h : Heap) : Prop where
  fld : ∀ b ∈ wr, ∃ o fs, h.get? b = some o ∧ o.data = .fields fs
  own : ∀ b ∈ wr, H b = none
  new : ∀ b ∈ wr, C.base.get? b = none

theorem Moved.extV {C H wr s s'} (T : Tmp C H wr s.heap) (M : Moved wr s s') : ExtV H s.heap H s'.heap := fun a o xs n e d m =>
  ⟨M.keep a o (fun q => by obtain ⟨o', fs, e', d'⟩ := T.fld a q; rw [e'] at e; cases e; rw [d'] at d; cases d) e, m⟩
theorem Sim.moved {C H wr s s'} (S : Sim C H s) (T : Tmp C H wr s.heap) (M : Moved wr s s') : Sim C H s' := by
  refine ⟨fun a o e => M.keep a o (fun q => ?_) (S.keep a o e), M.gens.trans S.gens, M.os.trans S.os, fun a o e => ?_, S.new⟩
  · rw [T.new a q] at e; cases e
  · have r := S.objs a o e
    obtain ⟨ob', e'⟩ := r.lt
    exact r.same (M.extV T) ((M.keep a ob' (fun q => by rw [T.own a q] at e; cases e) e').trans e'.symm)
theorem SimL.moved {C env ρ H wr s s'} (S : SimL C env ρ H s) (T : Tmp C H wr s.heap) (M : Moved wr s s') : SimL C env ρ H s' := by
  obtain ⟨m, cm, F, r⟩ := S.frm
  refine ⟨S.sim.moved T M, S.kind, S.globals, S.builtins, m, cm, ⟨?_, fun n c e => ?_, F.own, F.ownc, F.above, F.abovec, F.apart⟩, fun x v e => (r x v e).extV (M.extV T)⟩
  · obtain ⟨oL, es, ep, eL, dL, rL⟩ := F.ns
    exact ⟨oL, es, ep, M.keep _ _ (fun q => by obtain ⟨o', fs, e', d'⟩ := T.fld _ q; rw [e'] at eL; cases eL; rw [d'] at dL; cases dL) eL, dL, rL⟩
  · obtain ⟨oc, ec, dc⟩ := F.cell n c e
    exact ⟨oc, M.keep _ _ (fun q => by obtain ⟨o', fs, e', d'⟩ := T.fld _ q; rw [e'] at ec; cases ec; rw [d'] at dc; cases dc) ec, dc⟩
theorem ExtF.moved {env H h₀ H₁ wr s s'} (E : ExtF env H h₀ H₁ s.heap) (M : Moved wr s s') (hn : ∀ b ∈ wr, h₀.get? b = none) : ExtF env H h₀ H₁ s'.heap := by
  have hb : ∀ a o, h₀.get? a = some o → a ∉ wr := fun a o e q => by rw [hn a q] at e; cases e
  exact ⟨fun a o e n n1 n2 => M.keep a o (hb a o e) (E.keep a o e n n1 n2), E.grow, fun a o e => let ⟨o', e'⟩ := E.live a o e; ⟨o', M.keep a o' (hb a o e) e'⟩⟩
theorem Ext.moved {H h₀ H₁ wr s s'} (E : Ext H h₀ H₁ s.heap) (M : Moved wr s s') (hn : ∀ b ∈ wr, h₀.get? b = none) : Ext H h₀ H₁ s'.heap := by
  have hb : ∀ a o, h₀.get? a = some o → a ∉ wr := fun a o e q => by rw [hn a q] at e; cases e
  exact ⟨fun a o e n => M.keep a o (hb a o e) (E.keep a o e n), E.grow, fun a o e => let ⟨o', e'⟩ := E.live a o e; ⟨o', M.keep a o' (hb a o e) e'⟩⟩
/-- an iterator that yields the items, one by one -/
def IsTupleE (tup : Bool) (target : Expr) : Prop := tup = true → ∃ es n p, target = .Tuple es n p

structure ItrOK (C : Cx) (tup : Bool) (I : Addr) (wr : List Addr) (St : List V → Hp → Heap → Prop) (cond : Hp → Prop) : Prop where
  tmp : ∀ r H h, St r H h → Tmp C H wr h
  next : ∀ A, A.units + 1 < cLine → ∀ s v r H (P : Option Value → Shared → Prop) (E : Value → Shared → Prop), Sim C H s → cond H → St (v :: r) H s.heap →
    (∀ x s', (∀ target, IsTupleE tup target → ∀ (P' : Unit → Shared → Prop), (∀ s'', VRel s''.heap H v x → St r H s''.heap → Moved wr s s'' → P' () s'') → wpAny C.M A (letOwnedTupleGo target (.ref I) x) P' E s') → P (some x) s') → wpAny C.M A (pyNext (.ref I)) P E s
  done : ∀ A s H (P : Option Value → Shared → Prop) (E : Value → Shared → Prop), A.handled = none → A.units + 1 < cLine → Sim C H s → cond H → St [] H s.heap → (∀ s', Moved wr s s' → P none s') → wpAny C.M A (pyNext (.ref I)) P E s
  self : ∀ A s r H (P : Value → Shared → Prop) (E : Value → Shared → Prop), St r H s.heap → P (.ref I) s → wpAny C.M A (pyIter (.ref I)) P E s
  frame : ∀ r H h H' h', St r H h → ExtW H h H' h' → cond H' → St r H' h'

def AssignW (C : Cx) (k : Nat) (env : Env) (target : Expr) (v : V) (Q : Rho → Prop) (ρ : Rho) (H : Hp) : Prop :=
  ∀ A, Lv C k A → ∀ s x, SimL C env ρ H s → VRel s.heap H v x → ∀ (P : Unit → Shared → Prop) E, (∀ ρ' s', Q ρ' → SimL C env ρ' H s' → ExtF env H s.heap H s'.heap → P () s') → wpAny C.M A (assign target env x) P E s

variable {C : Cx} {k : Nat} {env : Env} {ρ : Rho} {H : Hp}

theorem AssignW.name {x p v} {Q : Rho → Prop} (hk : Storable env x) (h : Q (ρ.set x v)) : AssignW C k env (.Name x p) v Q ρ H := fun A a s u S r P E hP =>
  wpAny_assign_Name (store_W hk S r fun s' S' E' _ => hP _ s' h S' E')

/-- several names at once -/
inductive StA (env : Env) : List Expr → List Str → Prop
  | nil : StA env [] []
  | cons {x : Str} {p : Pos} {es : List Expr} {xs : List Str} (hx : Storable env x) (hr : StA env es xs) : StA env (.Name x p :: es) (x :: xs)
def setAll (ρ : Rho) : List Str → List V → Rho
  | x :: r, v :: t => setAll (ρ.set x v) r t
  | _, _ => ρ
theorem assignEach_length {es : List Expr} {xs : List Str} (h : StA env es xs) : (assignEach es env).length = xs.length ∧ (assignEach es env).findIdx? (·.1) = none := by
  induction h with
  | nil => exact ⟨rfl, rfl⟩
  | @cons x p es xs hx hr ih =>
    obtain ⟨a, b⟩ := ih
    refine ⟨by show (assignEach es env).length + 1 = _; rw [a]; rfl, ?_⟩
    show List.findIdx? (·.1) ((false, assign (.Name x p) env) :: assignEach es env) = none
    rw [List.findIdx?_cons, b]; rfl
theorem assignInOrder_W {A : Around} {E : Value → Shared → Prop} {P : Unit → Shared → Prop} {es : List Expr} {xs : List Str} (hst : StA env es xs) : ∀ (vs : List V) (us : List Value) (ρ : Rho) (s : Shared), vs.length = xs.length → SimL C env ρ H s → VRelL s.heap H vs us →
    (∀ s', SimL C env (setAll ρ xs vs) H s' → ExtF env H s.heap H s'.heap → P () s') → wpAny C.M A (assignInOrder ((assignEach es env).map (·.2)) us) P E s := by
  induction hst with
  | nil =>
    intro vs us ρ s hl S r h
    cases vs with
    | nil => cases r; exact wpAny_pure (h s S (ExtF.refl _ _ _))
    | cons v t => cases hl
  | @cons x p es xs hx hr ih =>
    intro vs us ρ s hl S r h
    cases r with
    | nil => cases hl
    | @cons v u vs us rv rl =>
      show wpAny C.M A (assignInOrder (assign (.Name x p) env :: (assignEach es env).map (·.2)) (u :: us)) P E s
      unfold assignInOrder
      refine wpAny_bind (wpAny_holding (wpAny_assign_Name (store_W hx S rv fun s' S' E' _ => ?_)))
      exact ih vs us (ρ.set x v) s' (by simpa using hl) S' (rl.extV (E'.w S).v) fun s'' S'' E'' => h s'' S'' (E'.trans E'')

theorem AssignW.tuple {es n p xs vs} {Q : Rho → Prop} (hst : StA env es xs) (hl : vs.length = xs.length) (hd : C.hd = true) (h : Q (setAll ρ xs vs)) : AssignW C k env (.Tuple es n p) (.tup vs) Q ρ H := fun A a s u S r P E hP => by
  cases r with
  | @tup ad l ys ha ho rl =>
    obtain ⟨l1, l2⟩ := assignEach_length hst
    have hz : ys.size = vs.length := by have := rl.length; simpa using this
    refine wpAny_assign_Tuple (a.handled hd) ha (l1.trans (hl.symm.trans hz.symm)) l2 fun h' he => ?_
    have hk : ∀ b o, s.heap.get? b = some o → h'.get? b = some o := fun b o e => he b o (Nat.ne_of_lt (Heap.lt_size e)) e
    have S1 : Sim C H { s with heap := h' } := S.sim.grown (s' := { s with heap := h' }) hk rfl rfl
    have SL : SimL C env ρ H { s with heap := h' } := S.ext S1 (Ext.grown hk)
    exact assignInOrder_W hst vs ys.toList ρ { s with heap := h' } hl SL (rl.ext (Ext.grown hk)) fun s' S' E' => hP _ s' h S' ((Ext.grown hk).toF.trans E')

end Mine

set_option Elab.async false
set_option linter.unusedVariables false
namespace Mine
open PySem PyProof.Rows

/-- an expression is evaluated and iterated over: K gets the items -/
def IterE (C : Cx) (k : Nat) (env : Env) (tup : Bool) (e : Expr) (K : List V → (Hp → Prop) → Hp → Prop) (R : V → Hp → Prop) (ρ : Rho) (H : Hp) : Prop :=
  ∀ A, Lv C k A → ∀ s, SimL C env ρ H s → ∀ (P : Value → Shared → Prop) (PE : Value → Shared → Prop), (∀ e s', Post C H s.heap VRel R e s' → PE e s') →
    (∀ I wr St items cond H₂ s₂, K items cond H₂ → ItrOK C tup I wr St cond → cond H₂ → St items H₂ s₂.heap → (∀ b ∈ wr, s.heap.get? b = none) → Sim C H₂ s₂ → Ext H s.heap H₂ s₂.heap → P (.ref I) s₂) →
    wpAny C.M A (eval e env) (fun x s₁ => wpAny C.M A (pyIter x) P PE s₁) PE s

variable {C : Cx} {k : Nat} {env : Env} {ρ : Rho} {H : Hp} {Q : Fl → Rho → Hp → Prop} {R : V → Rho → Hp → Prop} {RE : V → Hp → Prop}

/-- the loop itself -/
theorem for_core {target : Expr} {body : List Stmt} {I : Addr} {wr : List Addr} {St : List V → Hp → Heap → Prop} {cond : Hp → Prop} {tup : Bool} (IT : ItrOK C tup I wr St cond) (ht : IsTupleE tup target) (hd : C.hd = true) {A : Around} (lv : Lv C k A)
    (Inv : List V → Rho → Hp → Prop) (hc : ∀ r ρ H, Inv r ρ H → cond H)
    (step : ∀ v r ρ H, Inv (v :: r) ρ H → AssignW C k env target v (fun ρ' => ExecsW C k env body (fun fl ρ'' H'' => match fl with
      | .next => Inv r ρ'' H'' | .cont => Inv r ρ'' H'' | .brk => Q .next ρ'' H'' | .ret u => Q (.ret u) ρ'' H'') (fun _ _ _ => False) ρ' H) ρ H)
    (fin : ∀ ρ H, Inv [] ρ H → Q .next ρ H)
    {h₀ : Heap} {H₀ : Hp} (hn : ∀ b ∈ wr, h₀.get? b = none) {PE : Result → Shared → Prop}
    (hPE : ∀ f s', PostS C env H₀ h₀ Q f s' → PE (.ok f) s')
    (items : List V) (s : Shared) (S : SimL C env ρ H s) (E : ExtF env H₀ h₀ H s.heap) (st : St items H s.heap) (h0 : Inv items ρ H) :
    codeAny C.M A (.forLoop target (.ref I) body [] env) PE s := by
  have hu : A.units + 1 < cLine := by have := lv.units; omega
  refine codeAny_forLoop_any (fun n s' => ∃ r ρ H, n = r.length + 1 ∧ Inv r ρ H ∧ SimL C env ρ H s' ∧ ExtF env H₀ h₀ H s'.heap ∧ St r H s'.heap) ?_ (items.length + 1) ⟨items, ρ, H, rfl, h0, S, E, st⟩
  rintro n s ⟨r, ρ, H, rfl, hI, S, E, st⟩
  have T := IT.tmp _ _ _ st
  cases r with
  | nil =>
    refine IT.done A s H _ _ (lv.handled hd) hu S.sim (hc _ _ _ hI) st fun s' M => ?_
    refine wpAny_execs_nil (hPE _ _ ⟨.next, ρ, H, fin ρ H hI, trivial, S.moved T M, E.moved M hn⟩)
  | cons v r =>
    refine IT.next A hu s v r H _ _ S.sim (hc _ _ _ hI) st fun x s' hlet => ?_
    refine hlet target ht _ fun s'' rx'' st'' M'' => ?_
    have S'' := S.moved T M''
    have E'' := E.moved M'' hn
    refine step v r ρ H hI A lv s'' x S'' rx'' _ _ fun ρ' s₃ hb S₃ E₃ => ?_
    refine wpAny_mono (hb A lv s₃ S₃) ?_ ?_
    · rintro f s₄ ⟨fl, ρ₄, H₄, q, rf, S₄, E₄⟩
      have E' := E''.trans (E₃.trans E₄)
      have st₄ : ∀ (hI' : Inv r ρ₄ H₄), St r H₄ s₄.heap := fun hI' => IT.frame _ _ _ _ _ st'' ((E₃.trans E₄).w S'') (hc _ _ _ hI')
      cases fl <;> cases f <;> first | exact rf.elim | skip
      · exact ⟨r.length + 1, by simp, r, ρ₄, H₄, rfl, q, S₄, E', st₄ q⟩
      · exact hPE _ _ ⟨.next, ρ₄, H₄, q, trivial, S₄, E'⟩
      · exact ⟨r.length + 1, by simp, r, ρ₄, H₄, rfl, q, S₄, E', st₄ q⟩
      · exact hPE _ _ ⟨.ret _, ρ₄, H₄, q, rf, S₄, E'⟩
    · rintro e s₄ ⟨_, _, _, q, _⟩; exact q.elim

/-- views -/
def lview (H : Hp) : V → Option (List V)
  | .lst l => some l
  | .ref a => match H a with
    | some (.list l) => some l
    | _ => none
  | _ => none
theorem lview_list {s : Shared} {v : V} {l : List V} {x : Value} (hl : lview H v = some l) (S : Sim C H s) (r : VRel s.heap H v x) : ∃ a xs, x = .ref a ∧ s.heap.IsList a xs ∧ VRelL s.heap H l xs.toList := by
  cases r with
  | lst ha ho rl => cases hl; exact ⟨_, _, rfl, ha, rl⟩
  | ref a =>
    simp only [lview] at hl
    split at hl
    · rename_i l' e
      cases hl
      obtain ⟨xs, h1, h2⟩ := S.objs _ _ e
      exact ⟨a, xs, rfl, h1.isList, h2⟩
    · cases hl
  | _ => cases hl

/-- the iterator over a list that stays as it is -/
def lcond (v : V) (l : List V) : Hp → Prop := fun H => lview H v = some l
theorem itr_list {tup : Bool} {v : V} {l : List V} {a : Addr} {I : Addr} (hv : v = .lst l ∨ v = .ref a) (hI : C.base.get? I = none) :
    ItrOK C tup I [I] (fun r H h => ∃ i, h.IsListIter I a i ∧ H I = none ∧ VRel h H v (.ref a) ∧ r = l.drop i ∧ i ≤ l.length) (lcond v l) where
  tmp := by
    rintro r H h ⟨i, ⟨o, e, c, d⟩, n, _⟩
    exact ⟨fun b hb => by simp at hb; subst hb; exact ⟨o, _, e, d⟩, fun b hb => by simp at hb; subst hb; exact n, fun b hb => by simp at hb; subst hb; exact hI⟩
  next := by
    rintro A hu1 s u r H P E S hc ⟨i, hit, n, rv, hr, hi⟩ hP
    obtain ⟨a', xs, ea, hl, rl⟩ := lview_list hc S rv
    cases ea
    have hu : l[i]? = some u := by
      have := congrArg List.head? hr
      simpa [List.head?_drop] using this.symm
    have hlt : i < l.length := (List.getElem?_eq_some_iff.mp hu).1
    have hrest : r = l.drop (i + 1) := by
      have := congrArg List.tail hr
      simpa [List.tail_drop] using this
    obtain ⟨x, ex, rx⟩ := rl.get hu
    have haI : a ≠ I := fun q => by
      subst q
      obtain ⟨o, e, c, _⟩ := hit
      obtain ⟨o', e', c', _⟩ := hl
      rw [e] at e'; cases e'; rw [c] at c'; exact absurd c' (by decide)
    refine wpAny_pyNext_list_item hit hl (by simpa using ex) fun h' hit' hs => ?_
    have M : Moved [I] s { s with heap := h' } := ⟨fun b o hb e => hs.extBut b o (fun q => hb (by simp [q])) e, rfl, rfl⟩
    · have T : Tmp C H [I] s.heap := by
        obtain ⟨o, e, c, d⟩ := hit
        exact ⟨fun b hb => by simp at hb; subst hb; exact ⟨o, _, e, d⟩, fun b hb => by simp at hb; subst hb; exact n, fun b hb => by simp at hb; subst hb; exact hI⟩
      have V1 := M.extV T
      have st' : ∃ j, h'.IsListIter I a j ∧ H I = none ∧ VRel h' H v (.ref a) ∧ r = l.drop j ∧ j ≤ l.length := ⟨i + 1, hit', n, rv.extV V1, hrest, hlt⟩
      refine hP x _ fun target _ P' hP' => ?_
      have : wpAny C.M A (letOwnedTupleGo target (.ref I) x) P' E { s with heap := h' } := by
        have hend := hP' { s with heap := h' } (rx.extV V1) st' M
        unfold letOwnedTupleGo
        split
        · cases x <;> first | exact wpAny_pure hend | skip
          obtain ⟨o, e, c, d⟩ := hit'
          refine wpAny_bind (wpAny_load e ?_)
          rw [c, d]
          dsimp only
          rw [if_neg (by simp)]
          exact wpAny_pure hend
        · cases x <;> first | exact wpAny_pure hend | skip
          obtain ⟨o, e, c, d⟩ := hit'
          refine wpAny_bind (wpAny_load e ?_)
          rw [c, d]
          dsimp only
          rw [if_neg (by simp)]
          exact wpAny_pure hend
        · exact wpAny_pure hend
      exact this
  done := by
    rintro A s H P E hh hu S hc ⟨i, hit, n, rv, hr, hi⟩ hP
    obtain ⟨a', xs, ea, hl, rl⟩ := lview_list hc S rv
    cases ea
    have hlen : xs.size = l.length := by have := rl.length; simpa using this
    have hx : xs[i]? = none := by
      have : l.length ≤ i := by
        have := congrArg List.length hr
        simp at this; omega
      simp; omega
    refine wpAny_pyNext_list_end hh hit hl hx fun h' he => ?_
    exact hP _ ⟨fun b o hb e => he b o (fun q => hb (by simp [q])) e, rfl, rfl⟩
  self := by
    rintro A s r H P E ⟨i, hit, _⟩ hP
    exact wpAny_pyIter_listiter hit hP
  frame := by
    rintro r H h H' h' ⟨i, ⟨o, e, c, d⟩, n, rv, hr, hi⟩ E hc
    have := E I o e n (fun _ _ q => by rw [d] at q; cases q) (fun _ q => by rw [d] at q; cases q)
    exact ⟨i, ⟨o, this.1, c, d⟩, this.2, rv.extV E.v, hr, hi⟩

end Mine

set_option Elab.async false
set_option linter.unusedVariables false
namespace Mine
open PySem PyProof.Rows

variable {C : Cx} {k : Nat} {env : Env} {ρ : Rho} {H : Hp} {R : V → Hp → Prop}

theorem Ext.new_none {H h H' h' a} (E : Ext H h H' h') (ha : h'.objs.size ≤ a) : h.get? a = none := by
  cases e : h.get? a with
  | none => rfl
  | some o => obtain ⟨o', e'⟩ := E.live a o e; exact absurd (Heap.lt_size e') (Nat.not_lt.mpr ha)

def rangeV (n : Nat) : List V := (List.range n).map fun i => V.int (i : Nat)
theorem ints_get {n i : Nat} (h : i < n) : (rangeV n)[i]? = some (.int (i : Nat)) := by simp [rangeV, h]
theorem ints_length {n : Nat} : (rangeV n).length = n := by simp [rangeV]

theorem tmp_one {I : Addr} {h : Heap} {o : Obj} {fs} (e : h.get? I = some o) (d : o.data = .fields fs) (n : H I = none) (hI : C.base.get? I = none) : Tmp C H [I] h :=
  ⟨fun b hb => by simp at hb; subst hb; exact ⟨o, _, e, d⟩, fun b hb => by simp at hb; subst hb; exact n, fun b hb => by simp at hb; subst hb; exact hI⟩

/-- letting go: nothing to do where the iterator is none of the owned-tuple kinds -/
theorem letGo_plain {M : Model} {A : Around} {E : Value → Shared → Prop} {s : Shared} {target : Expr} {I : Addr} {x : Value} {P' : Unit → Shared → Prop} {o : Obj} {n : String} {fs} (e : s.heap.get? I = some o) (c : o.cls = .type n) (d : o.data = .fields fs)
    (hn : (["enumerate", "zip", "dict_itemiterator", "dict_reverseitemiterator", "odict_iterator", "itertools.zip_longest", "itertools.pairwise"].contains n) = false) (h : P' () s) : wpAny M A (letOwnedTupleGo target (.ref I) x) P' E s := by
  unfold letOwnedTupleGo
  split
  · cases x <;> first | exact wpAny_pure h | skip
    refine wpAny_bind (wpAny_load e ?_)
    rw [c, d]; dsimp only
    rw [if_neg (by rw [hn]; simp)]
    exact wpAny_pure h
  · cases x <;> first | exact wpAny_pure h | skip
    refine wpAny_bind (wpAny_load e ?_)
    rw [c, d]; dsimp only
    rw [if_neg (by rw [hn]; simp)]
    exact wpAny_pure h
  · exact wpAny_pure h

theorem itr_range {tup : Bool} {N : Nat} {I : Addr} (hI : C.base.get? I = none) :
    ItrOK C tup I [I] (fun r H h => ∃ j : Nat, j ≤ N ∧ IsRangeIter h I (j : Int) ((N : Int) - (j : Int)) 1 ∧ H I = none ∧ r = (rangeV N).drop j) (fun _ => True) where
  tmp := by
    rintro r H h ⟨j, hj, e, n, _⟩
    exact tmp_one e rfl n hI
  next := by
    rintro A hu1 s u r H P E S hc ⟨j, hj, hit, n, hr⟩ hP
    have hu : (rangeV N)[j]? = some u := by
      have := congrArg List.head? hr
      simpa [List.head?_drop] using this.symm
    have hlt : j < N := by have := (List.getElem?_eq_some_iff.mp hu).1; rwa [ints_length] at this
    rw [ints_get hlt] at hu; cases hu
    have hrest : r = (rangeV N).drop (j + 1) := by
      have := congrArg List.tail hr
      simpa [List.tail_drop] using this
    refine wpAny_pyNext_range_item hit (by omega) fun h' hit' hs => ?_
    have M : Moved [I] s { s with heap := h', toks := s.toks + 1 } := ⟨fun b o hb e => hs.extBut b o (fun q => hb (by simp [q])) e, rfl, rfl⟩
    have st' : ∃ j : Nat, j ≤ N ∧ IsRangeIter h' I (j : Int) ((N : Int) - (j : Int)) 1 ∧ H I = none ∧ r = (rangeV N).drop j := by
      refine ⟨j + 1, hlt, ?_, n, hrest⟩
      have e1 : (((j + 1 : Nat)) : Int) = (j : Int) + 1 := by push_cast; rfl
      have e2 : (N : Int) - ((j + 1 : Nat) : Int) = (N : Int) - (j : Int) - 1 := by push_cast; omega
      rw [e2, e1]; exact hit'
    refine hP _ _ fun target _ P' hP' => ?_
    exact letGo_plain hit' rfl rfl (by decide) (hP' { s with heap := h', toks := s.toks + 1 } (.int _ _) st' M)
  done := by
    rintro A s H P E hh hu S hc ⟨j, hj, hit, n, hr⟩ hP
    have hle : N ≤ j := by
      have := congrArg List.length hr
      simp [ints_length] at this; omega
    refine wpAny_pyNext_range_end hh hit (by omega) fun h' he => ?_
    exact hP _ ⟨fun b o hb e => he b o (fun q => hb (by simp [q])) e, rfl, rfl⟩
  self := by
    rintro A s r H P E ⟨j, hj, hit, _⟩ hP
    exact wpAny_pyIter_rangeiter hit hP
  frame := by
    rintro r H h H' h' ⟨j, hj, hit, n, hr⟩ E hc
    have := E I _ hit n (fun _ _ q => by cases q) (fun _ q => by cases q)
    exact ⟨j, hj, this.1, this.2, hr⟩

/-- range(n) -/
theorem IterE.range {tup : Bool} {x p e pos} {K : List V → (Hp → Prop) → Hp → Prop} (g : GlobalV C x (.con (.type "range"))) (hk : env.kindOf x = some .globalImplicit)
    (h : EvalW C k env e (fun v H₁ => ∃ n : Int, v = .int n ∧ n < 2 ^ 62 ∧ -(2 ^ 62) ≤ n ∧ K (rangeV n.toNat) (fun _ => True) H₁) R ρ H)
    (he : starEach [e] env = [(false, eval e env)] := by rfl) (hd : (x == ("__debug__" : Str)) = false := by decide) :
    IterE C k env tup (.Call (.Name x p) [e] [] pos) K R ρ H := fun A a s S P PE hPE hP => by
  have G := EvalW.global (k := k) (env := env) (ρ := ρ) (H := H) (R := R) (p := p) (Q := fun v H' => v = .con (.type "range") ∧ H' = H) g ⟨rfl, rfl⟩ hk hd
  refine wpAny_Call_NameR (wp_go (G A a s S) (fun f v H₁ s₁ hv S₁ r₁ E₁ => ?_) hPE)
  obtain ⟨rfl, rfl⟩ := hv
  have hf : f = .type "range" := by cases r₁; rfl
  subst hf
  rw [he]
  refine PySem.callWith_type rfl (Calls.evalArgs_plain (Calls.spliced_cons (wp_go (h A a s₁ (S.ext S₁ E₁)) (fun nv v H₂ s₂ hv S₂ r₂ E₂ => Calls.spliced_nil ?_) fun _ _ p => hPE _ _ (p.after E₁))))
  obtain ⟨n, rfl, hn1, hn2, hK⟩ := hv
  cases r₂ with
  | int _ t =>
    refine call_range_1 ?_
    refine wpAny_pyIter_range (IsRange.new ..) (small_one (by decide) (by decide) hn2 hn1) ?_
    have hsz : Builtin.Range.rangeSize 0 n 1 = (n.toNat : Int) := by rw [rangeSize_one]; split <;> omega
    have hk2 : ∀ b o, s₂.heap.get? b = some o → ((s₂.heap.push { cls := .type "range", data := .fields #[.int 0 s₂.toks, .int n t, .int 1 (s₂.toks + 1)] }).push { cls := .type "range_iterator", data := .fields #[rawInt 0, rawInt (Builtin.Range.rangeSize 0 n 1), rawInt 1] }).get? b = some o :=
      fun b o e => Heap.get?_push_of_some _ (Heap.get?_push_of_some _ e)
    have hI : s₂.heap.objs.size ≤ (s₂.heap.push { cls := .type "range", data := .fields #[.int 0 s₂.toks, .int n t, .int 1 (s₂.toks + 1)] }).objs.size := by rw [Heap.size_push]; omega
    refine hP _ [_] _ _ _ _ _ hK (itr_range (N := n.toNat) (S₂.freshB hI)) trivial ⟨0, Nat.zero_le _, ?_, S₂.fresh hI, rfl⟩ ?_ (S₂.grown hk2 rfl rfl) ((E₁.trans E₂).trans (Ext.grown hk2))
    · have e2 : ((n.toNat : Int) - ((0 : Nat) : Int)) = Builtin.Range.rangeSize 0 n 1 := by rw [hsz]; simp
      rw [e2]
      exact Heap.get?_push_size _ rfl
    · intro b hb
      simp at hb; subst hb
      exact (E₁.trans E₂).new_none (by omega)

/-- a list, frozen or owned -/
theorem IterE.list {tup : Bool} {e} {K : List V → (Hp → Prop) → Hp → Prop} (h : EvalW C k env e (fun v H₁ => ∃ l, lview H₁ v = some l ∧ K l (lcond v l) H₁) R ρ H) : IterE C k env tup e K R ρ H := fun A a s S P PE hPE hP => by
  refine wp_go (h A a s S) (fun x v H₁ s₁ hv S₁ r₁ E₁ => ?_) hPE
  obtain ⟨l, hl, hK⟩ := hv
  obtain ⟨ad, xs, rfl, hL, rl⟩ := lview_list hl S₁ r₁
  have hvv : v = .lst l ∨ v = .ref ad := by
    cases r₁ with
    | lst ha ho rl => cases hl; exact .inl rfl
    | ref a => exact .inr rfl
    | _ => cases hl
  have hk : ∀ b o, s₁.heap.get? b = some o → (s₁.heap.push { cls := .type "list_iterator", data := .fields #[.ref ad, .int 0 0] }).get? b = some o := fun b o e => Heap.get?_push_of_some _ e
  refine wpAny_pyIter_list hL ?_
  refine hP _ [_] _ _ _ _ _ hK (itr_list (a := ad) hvv (S₁.freshB (Nat.le_refl _))) hl ⟨0, ⟨_, Heap.get?_push_size _ rfl, rfl, rfl⟩, S₁.fresh (Nat.le_refl _), r₁.ext (Ext.grown hk), rfl, Nat.zero_le _⟩ ?_ (S₁.grown hk rfl rfl) (E₁.trans (Ext.grown hk))
  intro b hb; simp at hb; subst hb; exact E₁.new_none (Nat.le_refl _)

theorem itr_tuple {tup : Bool} {l : List V} {a I : Addr} (hI : C.base.get? I = none) :
    ItrOK C tup I [I] (fun r H h => ∃ i, h.IsTupleIter I a i ∧ H I = none ∧ VRel h H (.tup l) (.ref a) ∧ r = l.drop i ∧ i ≤ l.length) (fun _ => True) where
  tmp := by
    rintro r H h ⟨i, ⟨o, e, c, d⟩, n, _⟩
    exact tmp_one e d n hI
  next := by
    rintro A hu1 s u r H P E S hc ⟨i, hit, n, rv, hr, hi⟩ hP
    have rv0 := rv
    cases rv with
    | @tup _ _ xs hl ho rl =>
      have hu : l[i]? = some u := by
        have := congrArg List.head? hr
        simpa [List.head?_drop] using this.symm
      have hlt : i < l.length := (List.getElem?_eq_some_iff.mp hu).1
      have hrest : r = l.drop (i + 1) := by
        have := congrArg List.tail hr
        simpa [List.tail_drop] using this
      obtain ⟨x, ex, rx⟩ := rl.get hu
      refine wpAny_pyNext_tuple_item hit hl (by simpa using ex) fun h' hit' hs => ?_
      have M : Moved [I] s { s with heap := h' } := ⟨fun b o hb e => hs.extBut b o (fun q => hb (by simp [q])) e, rfl, rfl⟩
      have T : Tmp C H [I] s.heap := by obtain ⟨o, e, c, d⟩ := hit; exact tmp_one e d n hI
      have V1 := M.extV T
      have st' : ∃ j, h'.IsTupleIter I a j ∧ H I = none ∧ VRel h' H (.tup l) (.ref a) ∧ r = l.drop j ∧ j ≤ l.length := ⟨i + 1, hit', n, rv0.extV V1, hrest, hlt⟩
      refine hP x _ fun target _ P' hP' => ?_
      obtain ⟨o, e, c, d⟩ := hit'
      exact letGo_plain e c d (by decide) (hP' { s with heap := h' } (rx.extV V1) st' M)
  done := by
    rintro A s H P E hh hu S hc ⟨i, hit, n, rv, hr, hi⟩ hP
    cases rv with
    | @tup _ _ xs hl ho rl =>
      have hlen : xs.size = l.length := by have := rl.length; simpa using this
      have hx : xs[i]? = none := by
        have : l.length ≤ i := by
          have := congrArg List.length hr
          simp at this; omega
        simp; omega
      refine wpAny_pyNext_tuple_end hh hit hl hx fun h' he => ?_
      exact hP _ ⟨fun b o hb e => he b o (fun q => hb (by simp [q])) e, rfl, rfl⟩
  self := by
    rintro A s r H P E ⟨i, hit, _⟩ hP
    exact wpAny_pyIter_tupleiter hit hP
  frame := by
    rintro r H h H' h' ⟨i, ⟨o, e, c, d⟩, n, rv, hr, hi⟩ E hc
    have := E I o e n (fun _ _ q => by rw [d] at q; cases q) (fun _ q => by rw [d] at q; cases q)
    exact ⟨i, ⟨o, this.1, c, d⟩, this.2, rv.extV E.v, hr, hi⟩
theorem IterE.tup {tup : Bool} {e} {K : List V → (Hp → Prop) → Hp → Prop} (h : EvalW C k env e (fun v H₁ => ∃ l, v = .tup l ∧ K l (fun _ => True) H₁) R ρ H) : IterE C k env tup e K R ρ H := fun A a s S P PE hPE hP => by
  refine wp_go (h A a s S) (fun x v H₁ s₁ hv S₁ r₁ E₁ => ?_) hPE
  obtain ⟨l, rfl, hK⟩ := hv
  have r0 := r₁
  cases r₁ with
  | @tup ad _ xs hL ho rl =>
    have hk : ∀ b o, s₁.heap.get? b = some o → (s₁.heap.push { cls := .type "tuple_iterator", data := .fields #[.ref ad, .int 0 0] }).get? b = some o := fun b o e => Heap.get?_push_of_some _ e
    refine wpAny_pyIter_tuple hL ?_
    refine hP _ [_] _ _ _ _ _ hK (itr_tuple (a := ad) (S₁.freshB (Nat.le_refl _))) trivial ⟨0, ⟨_, Heap.get?_push_size _ rfl, rfl, rfl⟩, S₁.fresh (Nat.le_refl _), r0.ext (Ext.grown hk), rfl, Nat.zero_le _⟩ ?_ (S₁.grown hk rfl rfl) (E₁.trans (Ext.grown hk))
    intro b hb; simp at hb; subst hb; exact E₁.new_none (Nat.le_refl _)

end Mine

set_option Elab.async false
set_option linter.unusedVariables false
namespace Mine
open PySem PyProof.Rows

variable {C : Cx} {k : Nat} {env : Env} {ρ : Rho} {H : Hp} {R : V → Hp → Prop}

end Mine

set_option Elab.async false
set_option linter.unusedVariables false
namespace Mine
open PySem PyProof.Rows

section
variable {prog : Program} {w : World} {A : Around} {R : Result → Shared → Prop} {s : Shared}
theorem compLoop_any {elt target iter : Expr} {ifs : List Expr} {scope : Scope} {pos : Pos} {it acc : Value} {env : Env} (I : Nat → Shared → Prop)
    (turn : ∀ n s, I n s → wpAny (model prog w) A (pyNext it) (fun r s₁ => match r with
      | none => R (.ok .next) s₁
      | some v => wpAny (model prog w) A (letOwnedTupleGo target it v) (fun _ s₁' => wpAny (model prog w) A (assign target env v) (fun _ s₂ =>
          wpAny (model prog w) A (forIn ifs true fun c r => if r = true then do let ok ← isTrue c env (eval c env); pure (ForInStep.yield ok) else pure (ForInStep.yield r)) (fun ok s₃ =>
            if ok = true then wpAny (model prog w) A (eval elt env) (fun x s₄ =>
              wpAny (model prog w) A (call (.builtin "list.append") [acc, x]) (fun _ s₅ => ∃ m, m < n ∧ I m s₅) (notedBy (model prog w) A env fun e s' => R (.error e) s') s₄) (notedBy (model prog w) A env fun e s' => R (.error e) s') s₃
            else ∃ m, m < n ∧ I m s₃) (notedBy (model prog w) A env fun e s' => R (.error e) s') s₂) (notedBy (model prog w) A env fun e s' => R (.error e) s') s₁') (notedBy (model prog w) A env fun e s' => R (.error e) s') s₁) (notedBy (model prog w) A env fun e s' => R (.error e) s') s)
    (n : Nat) (h : I n s) : codeAny (model prog w) A (.compLoop (.ListComp elt [⟨target, iter, ifs, 0⟩] scope pos) 0 it acc env) R s := by
  refine codeAny_loop rfl I (fun n s hI => ?_) n h
  show wpAny _ A ((compTurn (.ListComp elt [⟨target, iter, ifs, 0⟩] scope pos) 0 it acc env).onRaise (fun x => do noteFrame x env; theTreesLotGoes x)) _ _ s
  refine wpAny_noted ?_
  rw [compTurn_list]
  refine wpAny_bind (wpAny_standAt (wpAny_bind (wpAny_mono (turn n s hI) (fun r s₁ h₁ => ?_) fun _ _ h' => h')))
  cases r with
  | none => exact wpAny_pure h₁
  | some v =>
    refine wpAny_bind (wpAny_mono h₁ (fun _ s₁' h₁ => ?_) fun _ _ h' => h')
    refine wpAny_bind (wpAny_mono h₁ (fun _ s₂ h₂ => wpAny_bind (wpAny_mono h₂ (fun ok s₃ h₃ => ?_) fun _ _ h' => h')) fun _ _ h' => h')
    cases ok with
    | false => exact wpAny_pure ⟨rfl, h₃⟩
    | true =>
      exact wpAny_bind (wpAny_bind (wpAny_mono h₃ (fun x s₄ h₄ => wpAny_bind (wpAny_mono h₄ (fun _ s₅ h₅ => wpAny_pure (wpAny_pure ⟨rfl, h₅⟩)) fun _ _ h' => h')) fun _ _ h' => h'))
end

/-- the tests of a comprehension -/
def IfsW (C : Cx) (k : Nat) (env : Env) (ifs : List Expr) (Q : Bool → Hp → Prop) (R : V → Hp → Prop) (ρ : Rho) (H : Hp) : Prop :=
  ∀ A, Lv C k A → ∀ s, SimL C env ρ H s → wpAny C.M A (forIn ifs true fun c r => if r = true then do let ok ← isTrue c env (eval c env); pure (ForInStep.yield ok) else pure (ForInStep.yield r)) (Post C H s.heap BRel Q) (Post C H s.heap VRel R) s

variable {C : Cx} {k : Nat} {env : Env} {ρ : Rho} {H : Hp} {Q R : V → Hp → Prop} {QB : Bool → Hp → Prop}
theorem IfsW.nil (h : QB true H) : IfsW C k env [] QB R ρ H := fun A a s S => wpAny_tests_nil (Post.here h S.sim rfl rfl)
theorem IfsW.one {c} (h : TestW C k env c QB R ρ H) : IfsW C k env [c] QB R ρ H := fun A a s S => wpAny_tests_one (h A a s S)

/-- the names that a comprehension sees -/
def Rho.hide (scope : Scope) (ρ : Rho) : Rho := fun y => if scope.names.lookup y = some .local then none else ρ y
def Rho.le (ρ ρ' : Rho) : Prop := ∀ y w, ρ y = some w → ρ' y = some w
theorem SimL.weaken {ρ' s} (S : SimL C env ρ' H s) (h : Rho.le ρ ρ') : SimL C env ρ H s :=
  let ⟨m, cm, F, r⟩ := S.frm; ⟨S.sim, S.kind, S.globals, S.builtins, m, cm, F, fun x v e => r x v (h x v e)⟩

/-- the cells that a comprehension closes over -/
def closL (cells : List (Str × Addr)) : List (Str × NameKind) → List (Str × Addr) → List (Str × Addr)
  | [], acc => acc
  | (n, kd) :: r, acc => if kd == .free then closL cells r ((n, (cells.lookup n).getD 0) :: acc) else closL cells r acc
theorem closureFor_eq {scope : Scope} (h : ∀ x ∈ scope.names, x.2 = .free → (env.cells.lookup x.1).isSome = true) : closureFor scope env = pure (closL env.cells scope.names []) := by
  have key : ∀ (names : List (Str × NameKind)) (acc : List (Str × Addr)), (∀ x ∈ names, x.2 = .free → (env.cells.lookup x.1).isSome = true) →
      (forIn names acc fun (x : Str × NameKind) r => match x with | (name, kind) => if (kind == .free) = true then do let a ← cellOf env name; pure (ForInStep.yield ((name, a) :: r)) else pure (ForInStep.yield r) : Sem (List (Str × Addr))) = pure (closL env.cells names acc) := by
    intro names
    induction names with
    | nil => intro acc _; rfl
    | cons x r ih =>
      obtain ⟨n, kd⟩ := x
      intro acc hx
      rw [List.forIn_cons]
      unfold closL
      by_cases hk : (kd == NameKind.free) = true
      · obtain ⟨c, hc⟩ := Option.isSome_iff_exists.mp (hx (n, kd) (.head _) (by simpa using hk))
        simp only [hk, if_true]
        have : cellOf env n = pure c := by unfold cellOf; rw [hc]
        rw [this, pure_bind, pure_bind]
        simp only [hc, Option.getD_some]
        exact ih _ fun y hy => hx y (.tail _ hy)
      · simp only [hk, if_false, Bool.false_eq_true]
        rw [pure_bind]
        exact ih _ fun y hy => hx y (.tail _ hy)
  have := key scope.names [] h
  unfold closureFor
  simp only [bind_pure]
  exact this
theorem closL_lookup (cells : List (Str × Addr)) : ∀ (names : List (Str × NameKind)) (acc : List (Str × Addr)) (x : Str) (c : Addr), (∀ y ∈ names, y.2 = .free → (cells.lookup y.1).isSome = true) → (∀ y c', acc.lookup y = some c' → cells.lookup y = some c') →
    (closL cells names acc).lookup x = some c → cells.lookup x = some c
  | [], acc, x, c, _, ha, e => ha x c e
  | (n, kd) :: r, acc, x, c, hn, ha, e => by
    unfold closL at e
    split at e
    · rename_i hk
      obtain ⟨c', hc'⟩ := Option.isSome_iff_exists.mp (hn (n, kd) (.head _) (by simpa using hk))
      refine closL_lookup cells r _ x c (fun y hy => hn y (.tail _ hy)) (fun y c'' ey => ?_) e
      rw [List.lookup_cons] at ey
      split at ey
      · rename_i hb; cases ey; rw [beq_iff_eq.mp hb, hc']; rfl
      · exact ha y c'' ey
    · exact closL_lookup cells r _ x c (fun y hy => hn y (.tail _ hy)) ha e
theorem closL_isSome (cells : List (Str × Addr)) : ∀ (names : List (Str × NameKind)) (acc : List (Str × Addr)) (x : Str), (names.lookup x = some .free ∨ (acc.lookup x).isSome = true) → ((closL cells names acc).lookup x).isSome = true
  | [], acc, x, h => by rcases h with h | h; · cases h
                        · exact h
  | (y, kd) :: r, acc, x, h => by
    unfold closL
    rw [List.lookup_cons] at h
    split
    · rename_i hk
      refine closL_isSome cells r _ x ?_
      rw [List.lookup_cons]
      by_cases q : (x == y) = true
      · rw [q]; exact .inr rfl
      · have q' : (x == y) = false := by simpa using q
        rw [q'] at h ⊢; exact h
    · rename_i hk
      refine closL_isSome cells r _ x ?_
      by_cases q : (x == y) = true
      · rw [q] at h
        rcases h with h | h
        · simp only [Option.some.injEq] at h; rw [h] at hk; simp at hk
        · exact .inr h
      · have q' : (x == y) = false := by simpa using q
        rw [q'] at h; exact h

theorem lookup_relabel {env : Env} : ∀ {names : List (Str × NameKind)} {x : Str} {kd : NameKind}, (names.map fun (n, k) => if (k == NameKind.free && env.scope.kind == .function && env.kindOf n == some .cell) then (n, NameKind.cell) else (n, k)).lookup x = some kd →
    names.lookup x = some kd ∨ (names.lookup x = some .free ∧ kd = .cell)
  | [], _, _, h => by simp at h
  | (n, k) :: r, x, kd, h => by
    have ih := @lookup_relabel env r x kd
    rw [List.lookup_cons]
    rw [List.map_cons] at h
    dsimp only at h
    by_cases hc : (k == NameKind.free && env.scope.kind == .function && env.kindOf n == some .cell) = true
    · rw [if_pos hc, List.lookup_cons] at h
      cases hx : x == n with
      | true => simp only [hx, Option.some.injEq] at h; right; refine ⟨?_, h.symm⟩
                have : k = .free := by simp at hc; exact hc.1.1
                rw [this]
      | false => simp only [hx] at h ⊢; exact ih h
    · rw [if_neg hc, List.lookup_cons] at h
      cases hx : x == n with
      | true => simp only [hx] at h ⊢; exact .inl h
      | false => simp only [hx] at h ⊢; exact ih h

structure CompScope (env : Env) (scope : Scope) : Prop where
  kind : scope.kind = .function
  nocell : ∀ x ∈ scope.names, x.2 ≠ .cell
  names : ∀ x ∈ scope.names, x.2 = .local → scope.names.lookup x.1 = some .local
  free : ∀ x ∈ scope.names, x.2 = .free → (env.cells.lookup x.1).isSome = true
  frees : ∀ x, scope.names.lookup x = some .free → env.kindOf x = some .cell ∨ env.kindOf x = some .free

abbrev cenvOf (env : Env) (scope : Scope) (L : Addr) : Env := compEnvC scope (closL env.cells scope.names []) L env

/-- in the comprehension's frame -/
theorem comp_enter {s₃ s₄ : Shared} {scope : Scope} (cs : CompScope env scope) (S : SimL C env ρ H s₃) (hk : ∀ a o, s₃.heap.get? a = some o → s₄.heap.get? a = some o) (hg : s₄.gens = s₃.gens) (ho : s₄.os = s₃.os) {L : Addr} {m₀ : Str → Option Value}
    (hns : s₄.heap.Ns L m₀) (hL : s₃.heap.objs.size ≤ L) : SimL C (cenvOf env scope L) (Rho.hide scope ρ) H s₄ := by
  have S₄ := S.sim.grown hk hg ho
  have SL := S.ext S₄ (Ext.grown hk)
  obtain ⟨m, cm, F, r⟩ := SL.frm
  have look : ∀ x c, (closL env.cells scope.names []).lookup x = some c → env.cells.lookup x = some c := fun x c e => closL_lookup _ _ _ x c cs.free (fun y c' e => by cases e) e
  refine ⟨S₄, cs.kind, S.globals, S.builtins, m₀, cm, ⟨hns, fun n c e => F.cell n c (look n c e), S.sim.fresh hL, fun n c e => F.ownc n c (look n c e), S.sim.freshB hL, fun n c e => F.abovec n c (look n c e), fun n n' c e e' => F.apart n n' c (look n c e) (look n' c e')⟩, fun x v e => ?_⟩
  unfold Rho.hide at e
  split at e
  · cases e
  · rename_i hx
    have rx := r x v e
    unfold LocRel
    have hkind : Env.kindOf (cenvOf env scope L) x = (relabel scope env).names.lookup x := rfl
    cases q : (relabel scope env).names.lookup x with
    | none => rw [hkind, q]; trivial
    | some kd =>
      rw [hkind, q]
      rcases lookup_relabel q with q' | ⟨q', rfl⟩
      · cases kd with
        | «local» => exact absurd q' hx
        | cell => exact absurd rfl (cs.nocell (x, .cell) (mem_of_lookup q'))
        | free =>
          obtain ⟨c, hc⟩ := Option.isSome_iff_exists.mp (closL_isSome env.cells scope.names [] x (.inl q'))
          unfold LocRel at rx
          rcases cs.frees x q' with z | z <;> rw [z] at rx
          · obtain ⟨u, c', a, b, d⟩ := rx; exact ⟨u, c, hc, b, d⟩
          · obtain ⟨u, c', a, b, d⟩ := rx; exact ⟨u, c, hc, b, d⟩
        | _ => trivial
      · obtain ⟨c, hc⟩ := Option.isSome_iff_exists.mp (closL_isSome env.cells scope.names [] x (.inl q'))
        unfold LocRel at rx
        rcases cs.frees x q' with z | z <;> rw [z] at rx
        · obtain ⟨u, c', a, b, d⟩ := rx; exact ⟨u, c, hc, b, d⟩
        · obtain ⟨u, c', a, b, d⟩ := rx; exact ⟨u, c, hc, b, d⟩

end Mine

set_option Elab.async false
set_option linter.unusedVariables false
namespace Mine
open PySem PyProof.Rows

variable {C : Cx} {k : Nat} {env : Env} {ρ : Rho} {H : Hp} {Q R : V → Hp → Prop}

/-- an owned object is changed -/
theorem Sim.update {s s' : Shared} {a : Addr} {o o' : O} (S : Sim C H s) (ha : H a = some o) (hs : Heap.SameBut a s.heap s'.heap) (hl : ∃ ob, s'.heap.get? a = some ob) (hg : s'.gens = s.gens) (ho : s'.os = s.os)
    (hr : ORel C s'.heap (H.set a o') a o') : Sim C (H.set a o') s' ∧ Ext H s.heap (H.set a o') s'.heap := by
  have hne : ∀ b, H b = none → b ≠ a := fun b e q => by subst q; rw [ha] at e; cases e
  have E : Ext H s.heap (H.set a o') s'.heap := by
    refine ⟨fun b ob e n => (hs.2 b (hne b n)).trans e, fun b ob e n => ?_, fun b ob e => ?_⟩
    · unfold Hp.set; rw [if_neg (hne b n)]; exact n
    · by_cases q : b = a
      · subst q; exact hl
      · exact ⟨ob, (hs.2 b q).trans e⟩
  refine ⟨⟨fun b ob e => (hs.2 b fun q => ?_).trans (S.keep b ob e), hg.trans S.gens, ho.trans S.os, fun b o'' e => ?_, fun b e => ?_⟩, E⟩
  · subst q; rw [(S.new b (by rw [ha]; simp)).1] at e; cases e
  · unfold Hp.set at e
    split at e
    · rename_i q; subst q; cases e; exact hr
    · rename_i q
      exact (S.objs b o'' e).same E.v (hs.2 b q)
  · unfold Hp.set at e
    split at e
    · rename_i q; subst q; exact S.new b (by rw [ha]; simp)
    · exact S.new b e

theorem append_W {A : Around} {a : Addr} {l : List V} {v : V} {x : Value} {s : Shared} {E : Value → Shared → Prop} {P : Value → Shared → Prop} (S : Sim C H s) (ha : H a = some (.list l)) (hn : l.length ≤ 1000) (r : VRel s.heap H v x)
    (h : ∀ s', Sim C (H.set a (.list (l ++ [v]))) s' → Ext H s.heap (H.set a (.list (l ++ [v]))) s'.heap → P .none s') : wpAny C.M A (call (.builtin "list.append") [.ref a, x]) P E s := by
  obtain ⟨xs, hl, rl⟩ := S.objs _ _ ha
  have hz : xs.size = l.length := by have := rl.length; simpa using this
  refine wpAny_list_append_plain hl (fun h' hl' hs => ?_) (by rw [hz]; exact Nat.le_trans hn (by decide))
  have hex : ∃ ob, h'.get? a = some ob := let ⟨_, e⟩ := hl'; ⟨_, e⟩
  have hne : ∀ b, H b = none → b ≠ a := fun b e q => by subst q; rw [ha] at e; cases e
  have E0 : ExtV H s.heap (H.set a (.list (l ++ [v]))) h' := fun b ob _ _ e _ n => ⟨(hs.2 b (hne b n)).trans e, by unfold Hp.set; rw [if_neg (hne b n)]; exact n⟩
  obtain ⟨S', E'⟩ := S.update (s' := { s with heap := h' }) (o' := .list (l ++ [v])) ha hs hex rfl rfl ⟨_, hl', by simpa using (rl.extV E0).append (.cons (r.extV E0) .nil)⟩
  exact h _ S' E'

/-- names stored in the frame's own table alone -/
def AssignL (C : Cx) (k : Nat) (env : Env) (target : Expr) (v : V) (Q : Rho → Prop) (ρ : Rho) (H : Hp) : Prop :=
  ∀ A, Lv C k A → ∀ s x, SimL C env ρ H s → VRel s.heap H v x → ∀ (P : Unit → Shared → Prop) E, (∀ ρ' s', Q ρ' → SimL C env ρ' H s' → ExtF env H s.heap H s'.heap → (∀ a o, a ≠ env.locals → s.heap.get? a = some o → s'.heap.get? a = some o) → P () s') → wpAny C.M A (assign target env x) P E s
theorem AssignL.name {x p v} {Q : Rho → Prop} (hk : env.kindOf x = some .local) (h : Q (ρ.set x v)) : AssignL C k env (.Name x p) v Q ρ H := fun A a s u S r P E hP =>
  wpAny_assign_Name (store_local hk S r fun s' S' E' hk' _ => hP _ s' h S' E' hk')
def compOk (env : Env) (scope : Scope) : Bool :=
  (scope.kind == .function) && scope.names.all (fun x => x.2 != .cell && (x.2 != .local || scope.names.lookup x.1 == some .local) && (x.2 != .free || ((env.cells.lookup x.1).isSome && (env.kindOf x.1 == some .cell || env.kindOf x.1 == some .free))))
theorem CompScope.of {scope : Scope} (h : compOk env scope = true) : CompScope env scope := by
  unfold compOk at h
  simp only [Bool.and_eq_true, beq_iff_eq, List.all_eq_true, Bool.or_eq_true, bne_iff_ne, ne_eq] at h
  refine ⟨h.1, fun x hx => (h.2 x hx).1.1, fun x hx hl => ?_, fun x hx hf => ?_, fun x hx => ?_⟩
  · rcases (h.2 x hx).1.2 with q | q
    · exact absurd hl q
    · exact q
  · rcases (h.2 x hx).2 with q | q
    · exact absurd hf q
    · exact q.1
  · rcases (h.2 (x, .free) (mem_of_lookup hx)).2 with q | q
    · exact absurd rfl q
    · exact q.2

/-- the comprehension's loop; D is the list that it fills -/
theorem comp_loop {elt target iter : Expr} {ifs : List Expr} {scope : Scope} {pos : Pos} {I : Addr} {wr : List Addr} {St : List V → Hp → Heap → Prop} {cond : Hp → Prop} {tup : Bool} (IT : ItrOK C tup I wr St cond) (ht : IsTupleE tup target) (hd : C.hd = true) {A : Around} (lv : Lv C k A)
    {cenv : Env} {ρc : Rho} {D : Addr}
    (Inv : List V → List V → Hp → Prop) (hc : ∀ r acc H, Inv r acc H → cond H ∧ H D = some (.list acc) ∧ acc.length ≤ 1000)
    (step : ∀ v r acc H, Inv (v :: r) acc H → AssignL C k cenv target v (fun ρ' => Rho.le ρc ρ' ∧ IfsW C k cenv ifs (fun b H₁ => if b = true then EvalW C k cenv elt (fun u H₂ => H₂ D = some (.list acc) ∧ Inv r (acc ++ [u]) (H₂.set D (.list (acc ++ [u])))) (fun _ _ => False) ρ' H₁ else Inv r acc H₁) (fun _ _ => False) ρ' H) ρc H)
    {h₀ : Heap} {H₀ : Hp} (hn : ∀ b ∈ wr, h₀.get? b = none) (hL : h₀.get? cenv.locals = none) {PE : Result → Shared → Prop}
    (hPE : ∀ acc H s', Inv [] acc H → SimL C cenv ρc H s' → Ext H₀ h₀ H s'.heap → PE (.ok .next) s')
    (items acc : List V) (s : Shared) (S : SimL C cenv ρc H s) (E : Ext H₀ h₀ H s.heap) (st : St items H s.heap) (h0 : Inv items acc H) :
    codeAny C.M A (.compLoop (.ListComp elt [⟨target, iter, ifs, 0⟩] scope pos) 0 (.ref I) (.ref D) cenv) PE s := by
  have hu : A.units + 1 < cLine := by have := lv.units; omega
  refine compLoop_any (fun n s' => ∃ r acc H, n = r.length + 1 ∧ Inv r acc H ∧ SimL C cenv ρc H s' ∧ Ext H₀ h₀ H s'.heap ∧ St r H s'.heap) ?_ (items.length + 1) ⟨items, acc, H, rfl, h0, S, E, st⟩
  rintro n s ⟨r, acc, H, rfl, hI, S, E, st⟩
  have T := IT.tmp _ _ _ st
  cases r with
  | nil =>
    refine IT.done A s H _ _ (lv.handled hd) hu S.sim (hc _ _ _ hI).1 st fun s' M => ?_
    exact hPE acc H _ hI (S.moved T M) (E.moved M hn)
  | cons v r =>
    refine IT.next A hu s v r H _ _ S.sim (hc _ _ _ hI).1 st fun x s' hlet => ?_
    refine hlet target ht _ fun s'' rx'' st'' M'' => ?_
    have S'' := S.moved T M''
    have E'' := E.moved M'' hn
    refine step v r acc H hI A lv s'' x S'' rx'' _ _ fun ρ' s₃ hb S₃ E₃ hk₃ => ?_
    obtain ⟨hle, hb⟩ := hb
    have E₃' : Ext H₀ h₀ H s₃.heap := by
      have hb : ∀ a o, h₀.get? a = some o → a ≠ cenv.locals := fun a o e q => by rw [q, hL] at e; cases e
      exact ⟨fun a o e n => hk₃ a o (hb a o e) (E''.keep a o e n), E''.grow, fun a o e => let ⟨o', e'⟩ := E''.live a o e; ⟨o', hk₃ a o' (hb a o e) e'⟩⟩
    have st₃ : ExtW H s''.heap H s₃.heap := E₃.w S''
    refine wpAny_mono (hb A lv s₃ S₃) ?_ ?_
    · rintro b s₄ ⟨b', H₄, q, S₄, rfl, E₄⟩
      cases b'
      · simp only [Bool.false_eq_true, if_false] at q ⊢
        refine ⟨r.length + 1, by simp, r, acc, H₄, rfl, q, (S₃.ext S₄ E₄).weaken hle, E₃'.trans E₄, IT.frame _ _ _ _ _ st'' (st₃.trans E₄.w) (hc _ _ _ q).1⟩
      · simp only [if_true] at q ⊢
        refine wpAny_mono (q A lv s₄ (S₃.ext S₄ E₄)) ?_ ?_
        · rintro y s₅ ⟨u, H₅, ⟨hD, hI'⟩, S₅, r₅, E₅⟩
          have hlen : acc.length ≤ 1000 := (hc _ _ _ hI).2.2
          refine append_W S₅ hD hlen r₅ fun s₆ S₆ E₆ => ?_
          refine ⟨r.length + 1, by simp, r, acc ++ [u], _, rfl, hI', (S₃.ext S₆ (E₄.trans (E₅.trans E₆))).weaken hle, E₃'.trans (E₄.trans (E₅.trans E₆)), ?_⟩
          exact IT.frame _ _ _ _ _ st'' (st₃.trans (E₄.trans (E₅.trans E₆)).w) (hc _ _ _ hI').1
        · rintro e s₅ ⟨_, _, q, _⟩; exact q.elim
    · rintro e s₄ ⟨_, _, q, _⟩; exact q.elim

end Mine

set_option Elab.async false
set_option linter.unusedVariables false
namespace Mine
open PySem PyProof.Rows

variable {C : Cx} {k : Nat} {env : Env} {ρ : Rho} {H : Hp} {Q R : V → Hp → Prop}

/-- what a comprehension's walk wants: an invariant over the list D that is filled, what is left, what is made -/
structure CompInv (C : Cx) (k : Nat) (env : Env) (elt target : Expr) (ifs : List Expr) (scope : Scope) (ρ : Rho) (Inv : Addr → List V → List V → Hp → Prop) : Prop where
  len : ∀ D r acc H, Inv D r acc H → H D = some (.list acc) ∧ acc.length ≤ 1000
  step : ∀ L D v r acc H, Inv D (v :: r) acc H → AssignL C k (cenvOf env scope L) target v (fun ρ' => Rho.le (Rho.hide scope ρ) ρ' ∧
    IfsW C k (cenvOf env scope L) ifs (fun b H₁ => if b = true then EvalW C k (cenvOf env scope L) elt (fun u H₂ => H₂ D = some (.list acc) ∧ Inv D r (acc ++ [u]) (H₂.set D (.list (acc ++ [u])))) (fun _ _ => False) ρ' H₁
      else Inv D r acc H₁) (fun _ _ => False) ρ' H) (Rho.hide scope ρ) H

theorem comp_core {elt target iter : Expr} {ifs : List Expr} {scope : Scope} {pos p' : Pos} {use : Option (Value → Sem Unit)} {A : Around} (a : Lv C k A) (cs : CompScope env scope) (hd : C.hd = true) {tup : Bool} (ht : IsTupleE tup target)
    (FIN : Addr → List V → Hp → Prop)
    (h : IterE C k env tup iter (fun items cond H₁ => ∃ Inv, CompInv C k env elt target ifs scope ρ Inv ∧ (∀ D, H₁ D = none → Inv D items [] (H₁.set D (.list []))) ∧ (∀ D r acc H, Inv D r acc H → cond H) ∧ ∀ D acc H', Inv D [] acc H' → FIN D acc H') R ρ H)
    {s : Shared} (S : SimL C env ρ H s) {P : Value → Shared → Prop} {E : Value → Shared → Prop} (hE : ∀ e s', Post C H s.heap VRel R e s' → E e s')
    (fin : ∀ D acc H' s' L m, FIN D acc H' → SimL C env ρ H' s' → Ext H s.heap H' s'.heap → s'.heap.Ns L m → s.heap.get? L = none → H' L = none → C.base.get? L = none → compPost C.M A E use P (.ref D) L (.ok .next) s')
    (hs : ∀ x, foldedSetIterable iter env x = pure x) :
    wpAny C.M A (comprehension (.ListComp elt [⟨target, iter, ifs, 0⟩] scope pos) scope env p' (newList []) false (eval iter env) use) P E s := by
  refine wpAny_comprehension_free (cl := closL env.cells scope.names []) rfl hs (closureFor_eq cs.free) cs.kind cs.names ?_
  refine h A a s S _ _ hE ?_
  rintro I wr St items cond H₂ s₂ ⟨Inv, CI, hI0, hcond, hfin⟩ IT hcd st hn S₂ E₂
  refine newList_W S₂ .nil (Nat.zero_le _) fun D s₃ hD S₃ E₃ => ?_
  refine wpAny_newFunctionEnv cs.nocell (by intro y hy; simp at hy) (fun h₁ hns₁ hsb₁ => ?_) cs.kind
  have hk₃ : ∀ b o, s₃.heap.get? b = some o → h₁.get? b = some o := fun b o e => hsb₁.extBut b o (Nat.ne_of_lt (Heap.lt_size e)) (Heap.get?_push_of_some _ e)
  have hI1 := hI0 D hD
  have E02 := E₂.trans E₃
  have E04 : Ext H s.heap (H₂.set D (.list [])) h₁ := E02.trans (Ext.grown hk₃)
  have hL0 : s.heap.get? s₃.heap.objs.size = none := E02.new_none (Nat.le_refl _)
  have S₃L := S.ext S₃ E02
  have S₄ : SimL C (cenvOf env scope s₃.heap.objs.size) (Rho.hide scope ρ) (H₂.set D (.list [])) { s₃ with heap := h₁, toks := s₃.toks + ([] : List (Str × Value)).length } :=
    comp_enter (s₄ := { s₃ with heap := h₁, toks := s₃.toks + ([] : List (Str × Value)).length }) cs S₃L hk₃ rfl rfl hns₁ (Nat.le_refl _)
  have st₄ : St items (H₂.set D (.list [])) h₁ := IT.frame _ _ _ _ _ st (E₃.trans (Ext.grown hk₃)).w (hcond _ _ _ _ hI1)
  have loop : ∀ s₅ : Shared, s₅ = { s₃ with heap := h₁, toks := s₃.toks + ([] : List (Str × Value)).length } →
      codeAny C.M A (.compLoop (.ListComp elt [⟨target, iter, ifs, 0⟩] scope pos) 0 (.ref I) (.ref D) (cenvOf env scope s₃.heap.objs.size)) (compPost C.M A E use P (.ref D) s₃.heap.objs.size) s₅ := by
    rintro s₅ rfl
    refine comp_loop IT ht hd a (Inv D) (fun r acc H' hi => ⟨hcond _ _ _ _ hi, CI.len _ _ _ _ hi⟩) (fun v r acc H' hi => CI.step _ D v r acc H' hi) (h₀ := s.heap) (H₀ := H) hn hL0 ?_ items [] _ S₄ E04 st₄ hI1
    intro acc H' s' hi S' E'
    obtain ⟨m, cm, F, _⟩ := S'.frm
    exact fin D acc H' s' _ m (hfin _ _ _ hi) (S.ext S'.sim E') E' F.ns hL0 F.own F.above
  refine codeAny_compStart_list (loop _ rfl) (IT.self A _ items _ _ _ st₄ (loop _ rfl))

theorem EvalW.comp {elt target iter ifs scope pos} (tup : Bool) (cs : compOk env scope = true) (hd : C.hd = true) (ht : IsTupleE tup target)
    (h : IterE C k env tup iter (fun items cond H₁ => ∃ Inv, CompInv C k env elt target ifs scope ρ Inv ∧ (∀ D, H₁ D = Option.none → Inv D items [] (H₁.set D (.list []))) ∧ (∀ D r acc H, Inv D r acc H → cond H) ∧
      ∀ D acc H', Inv D [] acc H' → ∃ v H'', Fz H' (.ref D) v H'' ∧ Q v H'') R ρ H)
    (hs : ∀ x, foldedSetIterable iter env x = pure x := by intro _; rfl) :
    EvalW C k env (.ListComp elt [⟨target, iter, ifs, 0⟩] scope pos) Q R ρ H := fun A a s S => by
  rw [eval_ListComp]
  refine comp_core a (CompScope.of cs) hd ht _ h S (fun _ _ p => p) (fun D acc H' s' L m hi S' E' hns hL hHL hBL => ?_) hs
  refine ⟨m, hns, fun h' hsb => ?_⟩
  obtain ⟨v, H'', fz, q⟩ := hi
  obtain ⟨oL, eL, nL⟩ := ns_noseq hns
  have S'' : Sim C H' { s' with heap := h' } := S'.sim.touch (s' := { s' with heap := h' }) eL nL hHL hBL (fun a o n e => hsb.extBut a o n e) rfl rfl
  obtain ⟨S3, r3⟩ := fz.2 C { s' with heap := h' } (.ref D) S'' (.ref D)
  have hb : ∀ a o, s.heap.get? a = some o → a ≠ L := fun a o e q => by rw [q, hL] at e; cases e
  exact ⟨v, H'', q, S3, r3, ⟨fun a o e n => hsb.extBut a o (hb a o e) (E'.keep a o e n), fun a o e n => fz.1 a (E'.grow a o e n), fun a o e => let ⟨o', e'⟩ := E'.live a o e; ⟨o', hsb.extBut a o' (hb a o e) e'⟩⟩⟩

variable {QS : Fl → Rho → Hp → Prop} {RS : V → Rho → Hp → Prop}
theorem ExecW.assign_comp {x p' elt target iter ifs scope cpos pos} (tup : Bool) (hk : env.kindOf x = some .local) (cs : compOk env scope = true) (hd : C.hd = true) (ht : IsTupleE tup target)
    (h : IterE C k env tup iter (fun items cond H₁ => ∃ Inv, CompInv C k env elt target ifs scope ρ Inv ∧ (∀ D, H₁ D = Option.none → Inv D items [] (H₁.set D (.list []))) ∧ (∀ D r acc H, Inv D r acc H → cond H) ∧
      ∀ D acc H', Inv D [] acc H' → ∃ v H'', Fz H' (.ref D) v H'' ∧ QS .next (ρ.set x v) H'') (fun v H' => RS v ρ H') ρ H)
    (hsw : swapsWith (.ListComp elt [⟨target, iter, ifs, 0⟩] scope cpos) (some (.Name x p')) pos.line env = pure true := by rfl)
    (hs : ∀ x, foldedSetIterable iter env x = pure x := by intro _; rfl) :
    ExecW C k env (.Assign [.Name x p'] (.ListComp elt [⟨target, iter, ifs, 0⟩] scope cpos) pos) QS RS ρ H := fun A a s S => by
  have e0 : exec (.Assign [.Name x p'] (.ListComp elt [⟨target, iter, ifs, 0⟩] scope cpos) pos) env = (do
      standAt pos
      if ← swapsWith (.ListComp elt [⟨target, iter, ifs, 0⟩] scope cpos) (some (.Name x p')) pos.line env then do
        evalThenUse (.ListComp elt [⟨target, iter, ifs, 0⟩] scope cpos) env fun v => assignAll v ((assignEach [.Name x p'] env).map (·.2))
        pure .next
      else do
        let v ← eval (.ListComp elt [⟨target, iter, ifs, 0⟩] scope cpos) env
        assignStores env v (← swappedStores [.Name x p'] (.ListComp elt [⟨target, iter, ifs, 0⟩] scope cpos) env) ((assignEach [.Name x p'] env).map (·.2))) := rfl
  rw [e0, hsw]
  refine wpAny_bind (wpAny_standAt (wpAny_bind (wpAny_pure ?_)))
  simp only [if_true]
  refine wpAny_bind ?_
  rw [arm_evalThenUse_ListComp]
  refine wpAny_bind ?_
  refine comp_core a (CompScope.of cs) hd ht _ h S (fun _ _ p => p.toX S) (fun D acc H' s' L m hi S' E' hns hL hHL hBL => ?_) hs
  show wpAny C.M A (PySem.assign (.Name x p') env (.ref D)) _ _ s'
  refine wpAny_assign_Name ?_
  obtain ⟨v, H'', fz, q⟩ := hi
  obtain ⟨S3, r3⟩ := fz.2 C s' (.ref D) S'.sim (.ref D)
  have E3 : Ext H' s'.heap H'' s'.heap := ⟨fun _ _ e _ => e, fun a _ _ n => fz.1 a n, fun _ o e => ⟨o, e⟩⟩
  have SL3 := S'.ext S3 E3
  refine store_local hk SL3 r3 fun s₅ S₅ E₅ hk₅ hg₅ => ?_
  have hLne : L ≠ env.locals := fun q => by
    obtain ⟨m2, cm2, F2, _⟩ := S.frm
    obtain ⟨o2, e2, _⟩ := ns_noseq F2.ns
    rw [← q, hL] at e2; cases e2
  obtain ⟨oL, es, ep, eL, dL, rL⟩ := hns
  have hns5 : s₅.heap.Ns L m := ⟨oL, es, ep, hk₅ _ _ hLne eL, dL, rL⟩
  refine ⟨m, hns5, fun h' hsb => wpAny_pure (wpAny_pure ?_)⟩
  obtain ⟨m5, cm5, F5, r5⟩ := S₅.frm
  obtain ⟨oL5, eL5, nL5⟩ := ns_noseq hns5
  have hHL' : H'' L = Option.none := fz.1 L hHL
  have hkeep : ∀ a o, a ≠ L → s₅.heap.get? a = some o → h'.get? a = some o := fun a o n e => hsb.extBut a o n e
  have S6 : Sim C H'' { s₅ with heap := h' } := S₅.sim.touch (s' := { s₅ with heap := h' }) eL5 nL5 hHL' hBL hkeep rfl rfl
  have hcellne : ∀ n c, env.cells.lookup n = some c → c ≠ L := fun n c e q => by
    obtain ⟨m2, cm2, F2, _⟩ := S.frm
    obtain ⟨o2, e2, _⟩ := cell_noseq (F2.cell n c e)
    rw [q, hL] at e2; cases e2
  have SL6 : SimL C env (ρ.set x v) H'' { s₅ with heap := h' } := by
    refine ⟨S6, S.kind, S.globals, S.builtins, m5, cm5, ⟨?_, fun n c e => ?_, F5.own, F5.ownc, F5.above, F5.abovec, F5.apart⟩, fun y w e => (r5 y w e).extV (ExtV.but eL5 nL5 hkeep)⟩
    · exact F5.ns.sameBut hsb (Ne.symm hLne)
    · exact (F5.cell n c e).sameBut hsb (hcellne n c e)
  have hb : ∀ a o, s.heap.get? a = some o → a ≠ L := fun a o e q => by rw [q, hL] at e; cases e
  have EF : ExtF env H s.heap H'' s₅.heap := (E'.trans E3).toF.trans E₅
  refine ⟨.next, ρ.set x v, H'', q, trivial, SL6, ⟨fun a o e n n1 n2 => hkeep a o (hb a o e) (EF.keep a o e n n1 n2), EF.grow, fun a o e => let ⟨o', e'⟩ := EF.live a o e; ⟨o', hkeep a o' (hb a o e) e'⟩⟩⟩

end Mine

set_option Elab.async false
set_option linter.unusedVariables false
namespace Mine
open PySem PyProof.Rows

variable {C : Cx} {k : Nat} {env : Env} {ρ : Rho} {H : Hp} {Q R : V → Hp → Prop} {QB : Bool → Hp → Prop}

/- ints -/
theorem BinW.add {i j : Int} (h : Q (.int (i + j)) H) : BinW C k .Add (.int i) (.int j) Q R H := fun A a s x y S r1 r2 => by
  cases r1; cases r2; exact add_int (Post.here h (S.toks _) (.int _ _) rfl)
theorem BinW.sub {i j : Int} (h : Q (.int (i - j)) H) : BinW C k .Sub (.int i) (.int j) Q R H := fun A a s x y S r1 r2 => by
  cases r1; cases r2; exact sub_int (Post.here h (S.toks _) (.int _ _) rfl)
theorem BinW.mul {i j : Int} (hb : IntMulOk i j) (h : Q (.int (i * j)) H) : BinW C k .Mult (.int i) (.int j) Q R H := fun A a s x y S r1 r2 => by
  cases r1; cases r2; exact mul_int (Post.here h (S.toks _) (.int _ _) rfl) hb
theorem BinW.mod {i j : Int} (hb : 0 < j) (h : Q (.int (i % j)) H) : BinW C k .Mod (.int i) (.int j) Q R H := fun A a s x y S r1 r2 => by
  cases r1; cases r2
  refine mod_int' (by omega) (Post.here (v := .int (i % j)) h (S.toks _) ?_ rfl)
  rw [Int.fmod_eq_emod_of_nonneg _ (by omega)]; exact .int _ _
theorem BinW.floordiv {i j : Int} (hb : 0 < j) (hs : j < 1073741824) (h : Q (.int (i / j)) H) : BinW C k .FloorDiv (.int i) (.int j) Q R H := fun A a s x y S r1 r2 => by
  cases r1; cases r2
  refine floordiv_int (by omega) (Post.here (v := .int (i / j)) h (S.toks _) ?_ rfl) (Or.inl (PyProof.noPylong_small (by omega)))
  rw [Int.fdiv_eq_ediv_of_nonneg _ (by omega)]; exact .int _ _
theorem CmpW.lt {i j : Int} (h : Q (.bool (decide (i < j))) H) : CmpW C k .Lt (.int i) (.int j) Q R H := fun A a s x y S r1 r2 => by
  cases r1; cases r2; exact lt_int (Post.here h S (.bool _) rfl)
theorem CmpW.gt {i j : Int} (h : Q (.bool (decide (j < i))) H) : CmpW C k .Gt (.int i) (.int j) Q R H := fun A a s x y S r1 r2 => by
  cases r1; cases r2; exact gt_int (Post.here h S (.bool _) rfl)
theorem CmpW.eqI {i j : Int} (h : Q (.bool (i == j)) H) : CmpW C k .Eq (.int i) (.int j) Q R H := fun A a s x y S r1 r2 => by
  cases r1; cases r2; exact eq_int (Post.here h S (.bool _) rfl)
theorem CmpW.neI {i j : Int} (h : Q (.bool (i != j)) H) : CmpW C k .NotEq (.int i) (.int j) Q R H := fun A a s x y S r1 r2 => by
  cases r1; cases r2; exact ne_int (Post.here h S (.bool _) rfl)
theorem CmpW.eqS {i j : Str} (h : Q (.bool (i == j)) H) : CmpW C k .Eq (.str i) (.str j) Q R H := fun A a s x y S r1 r2 => by
  cases r1; cases r2; exact eq_str (Post.here h S (.bool _) rfl)
theorem CmpW.neS {i j : Str} (h : Q (.bool (i != j)) H) : CmpW C k .NotEq (.str i) (.str j) Q R H := fun A a s x y S r1 r2 => by
  cases r1; cases r2; exact ne_str (Post.here h S (.bool _) rfl)

def V.isNone : V → Bool
  | .none => true
  | _ => false
def V.notCon : V → Prop
  | .con _ => False
  | _ => True
theorem CmpW.isNone {v : V} (hv : v.notCon) (h : Q (.bool v.isNone) H) : CmpW C k .Is v .none Q R H := fun A a s x y S r1 r2 => by
  cases r2
  refine is_none_gen (Post.here (v := .bool v.isNone) h S ?_ rfl)
  cases r1 <;> first | exact .bool _ | exact hv.elim
theorem CmpW.isNotNone {v : V} (hv : v.notCon) (h : Q (.bool (!v.isNone)) H) : CmpW C k .IsNot v .none Q R H := fun A a s x y S r1 r2 => by
  cases r2
  refine isnot_none_gen (Post.here (v := .bool (!v.isNone)) h S ?_ rfl)
  cases r1 <;> first | exact .bool _ | exact hv.elim

theorem TruthW.bool {b : Bool} (h : QB b H) : TruthW C k (.bool b) QB R H := fun A a s x S r => by
  cases r; exact wpAny_truthy_bool (Post.here h S rfl rfl)
theorem TruthW.list {v : V} {l : List V} (hl : lview H v = some l) (hn : l.length ≤ 100000) (h : QB (!l.isEmpty) H) : TruthW C k v QB R H := fun A a s x S r => by
  obtain ⟨ad, xs, rfl, hL, rl⟩ := lview_list hl S r
  have hz : xs.size = l.length := by have := rl.length; simpa using this
  refine wpAny_truthy_list hL (by omega) (Post.here (v := !l.isEmpty) h (S.toks _) ?_ rfl)
  show (!l.isEmpty) = !xs.isEmpty
  cases l <;> cases xs with | mk ys => cases ys <;> simp_all

/- len -/
theorem CallW.len {v : V} {l : List V} (hl : lview H v = some l) (hn : l.length ≤ 100000) (h : Q (.int l.length) H) : CallW C k (.builtin "len") [v] Q R H := fun A a s xs S r => by
  cases r with
  | cons r r' =>
    cases r'
    obtain ⟨ad, ys, rfl, hL, rl⟩ := lview_list hl S r
    have hz : ys.size = l.length := by have := rl.length; simpa using this
    refine len_list hL (by omega) (Post.here h (S.toks _) ?_ rfl)
    rw [hz]; exact .int _ _
theorem CallW.lenT {l : List V} (hn : l.length ≤ 100000) (h : Q (.int l.length) H) : CallW C k (.builtin "len") [.tup l] Q R H := fun A a s xs S r => by
  cases r with
  | cons r r' =>
    cases r'
    cases r with
    | @tup ad _ ys ha ho rl =>
      have hz : ys.size = l.length := by have := rl.length; simpa using this
      refine len_tuple ha (by omega) (Post.here h (S.toks _) ?_ rfl)
      rw [hz]; exact .int _ _

/- subscripts -/
def SubW (C : Cx) (k : Nat) (value slice : Expr) (v i : V) (Q R : V → Hp → Prop) (H : Hp) : Prop :=
  ∀ A, Lv C k A → ∀ s x y, Sim C H s → VRel s.heap H v x → VRel s.heap H i y → wpAny C.M A (subscriptTail value slice x y) (Post C H s.heap VRel Q) (Post C H s.heap VRel R) s
theorem EvalW.sub {value slice p} (h : EvalW C k env value (fun v H₁ => EvalW C k env slice (fun i H₂ => SubW C k value slice v i Q R H₂) R ρ H₁) R ρ H) : EvalW C k env (.Subscript value slice p) Q R ρ H := fun A a s S =>
  Subscript_ (wp_go (h A a s S) fun x v H₁ s₁ h₁ S₁ r₁ E₁ => wp_go (h₁ A a s₁ (S.ext S₁ E₁)) (fun y w H₂ s₂ h₂ S₂ r₂ E₂ => wp_fin (E₁.trans E₂) (h₂ A a s₂ x y S₂ (r₁.ext E₂) r₂)) fun _ _ p => p.after E₁)
theorem SubW.list {value slice} {v u : V} {l : List V} {i : Int} (hl : lview H v = some l) (h0 : 0 ≤ i) (hi : i < 2 ^ 63) (hx : l[i.toNat]? = some u) (h : Q u H)
    (hs : ∀ o i, subscripted slice false o i = operate [o, i] (getItem o i) := by intros; rfl) : SubW C k value slice v (.int i) Q R H := fun A a s x y S r1 r2 => by
  obtain ⟨ad, xs, rfl, hL, rl⟩ := lview_list hl S r1
  cases r2
  obtain ⟨z, ez, rz⟩ := rl.get hx
  exact tail_any hL.typeIs slot_list_getitem.lookup (wpAny_getItem_list hL h0 hi (by simpa using ez) (Post.here h S rz rfl)) (hs _ _)
theorem SubW.tup {value slice} {u : V} {l : List V} {i : Int} (h0 : 0 ≤ i) (hi : i < 2 ^ 63) (hx : l[i.toNat]? = some u) (h : Q u H)
    (hs : ∀ o i, subscripted slice false o i = operate [o, i] (getItem o i) := by intros; rfl) : SubW C k value slice (.tup l) (.int i) Q R H := fun A a s x y S r1 r2 => by
  cases r1 with
  | @tup ad _ xs ha ho rl =>
    cases r2
    obtain ⟨z, ez, rz⟩ := rl.get hx
    have hz : i.toNat < xs.size := by have := (List.getElem?_eq_some_iff.mp ez).1; simpa using this
    refine tail_any (T := "tuple") (Heap.IsTuple.typeIs ha) slot_tuple_getitem.lookup (getItem_tuple (j := i.toNat) ha (by omega) hi ?_ (by simpa using ez) (Post.here h S rz rfl)) (hs _ _)
    unfold seqIndex?
    have : ¬ i < 0 := by omega
    simp [this, hz]; omega

/- isinstance -/
def tyOf (H : Hp) : V → Option String
  | .none => some "NoneType"
  | .bool _ => some "bool"
  | .int _ => some "int"
  | .str _ => some "str"
  | .tup _ => some "tuple"
  | .lst _ => some "list"
  | .ref a => match H a with
    | some (.list _) => some "list"
    | some (.dictI ..) => some "dict"
    | some (.dictS ..) => some "dict"
    | _ => Option.none
  | .con _ => Option.none
def isSub (T U : String) : Bool := T == U || (T == "bool" && U == "int")
theorem CallW.isi_int {v : V} {T : String} (hT : tyOf H v = some T) (h : Q (.bool (isSub T "int")) H) : CallW C k (.builtin "isinstance") [v, .con (.type "int")] Q R H := fun A a s xs S r => by
  cases r with
  | cons r r1 =>
    cases r1 with
    | cons r1 r2 =>
      cases r2; cases r1
      cases r with
      | none => exact IsiPair.NoneType_int (Post.here (v := .bool false) (by cases hT; exact h) (S.toks _) (.bool _) rfl)
      | bool b => exact IsiPair.bool_int (Post.here (v := .bool true) (by cases hT; exact h) S (.bool _) rfl)
      | int i t => exact IsiPair.int_int (Post.here (v := .bool true) (by cases hT; exact h) S (.bool _) rfl)
      | str x t => exact IsiPair.str_int (Post.here (v := .bool false) (by cases hT; exact h) (S.toks _) (.bool _) rfl)
      | tup ha ho hl => obtain ⟨o, e, c, _⟩ := ha; exact IsiPair.tuple_int e c (Post.here (v := .bool false) (by cases hT; exact h) (S.toks _) (.bool _) rfl)
      | lst ha ho hl => obtain ⟨o, e, c, _⟩ := ha; exact IsiPair.list_int e c (Post.here (v := .bool false) (by cases hT; exact h) (S.toks _) (.bool _) rfl)
      | ref ad =>
        simp only [tyOf] at hT
        split at hT
        · rename_i l e
          obtain ⟨ys, hpl, _⟩ := S.objs _ _ e
          obtain ⟨o, e', c, _⟩ := hpl.isList
          exact IsiPair.list_int e' c (Post.here (v := .bool false) (by cases hT; exact h) (S.toks _) (.bool _) rfl)
        · rename_i m n e
          obtain ⟨f, ⟨o, es, ep, e', hx, _⟩, _⟩ := S.objs _ _ e
          exact IsiPair.dict_int e' hx.1 (Post.here (v := .bool false) (by cases hT; exact h) (S.toks _) (.bool _) rfl)
        · rename_i m n e
          obtain ⟨f, ⟨o, es, ep, e', hx, _⟩, _⟩ := S.objs _ _ e
          exact IsiPair.dict_int e' hx.1 (Post.here (v := .bool false) (by cases hT; exact h) (S.toks _) (.bool _) rfl)
        · cases hT
      | con v => cases hT
theorem CallW.isi_bool {v : V} {T : String} (hT : tyOf H v = some T) (h : Q (.bool (isSub T "bool")) H) : CallW C k (.builtin "isinstance") [v, .con (.type "bool")] Q R H := fun A a s xs S r => by
  cases r with
  | cons r r1 =>
    cases r1 with
    | cons r1 r2 =>
      cases r2; cases r1
      cases r with
      | none => exact IsiPair.NoneType_bool (Post.here (v := .bool false) (by cases hT; exact h) (S.toks _) (.bool _) rfl)
      | bool b => exact IsiPair.bool_bool (Post.here (v := .bool true) (by cases hT; exact h) S (.bool _) rfl)
      | int i t => exact IsiPair.int_bool (Post.here (v := .bool false) (by cases hT; exact h) (S.toks _) (.bool _) rfl)
      | str x t => exact IsiPair.str_bool (Post.here (v := .bool false) (by cases hT; exact h) (S.toks _) (.bool _) rfl)
      | tup ha ho hl => obtain ⟨o, e, c, _⟩ := ha; exact IsiPair.tuple_bool e c (Post.here (v := .bool false) (by cases hT; exact h) (S.toks _) (.bool _) rfl)
      | lst ha ho hl => obtain ⟨o, e, c, _⟩ := ha; exact IsiPair.list_bool e c (Post.here (v := .bool false) (by cases hT; exact h) (S.toks _) (.bool _) rfl)
      | ref ad =>
        simp only [tyOf] at hT
        split at hT
        · rename_i l e
          obtain ⟨ys, hpl, _⟩ := S.objs _ _ e
          obtain ⟨o, e', c, _⟩ := hpl.isList
          exact IsiPair.list_bool e' c (Post.here (v := .bool false) (by cases hT; exact h) (S.toks _) (.bool _) rfl)
        · rename_i m n e
          obtain ⟨f, ⟨o, es, ep, e', hx, _⟩, _⟩ := S.objs _ _ e
          exact IsiPair.dict_bool e' hx.1 (Post.here (v := .bool false) (by cases hT; exact h) (S.toks _) (.bool _) rfl)
        · rename_i m n e
          obtain ⟨f, ⟨o, es, ep, e', hx, _⟩, _⟩ := S.objs _ _ e
          exact IsiPair.dict_bool e' hx.1 (Post.here (v := .bool false) (by cases hT; exact h) (S.toks _) (.bool _) rfl)
        · cases hT
      | con v => cases hT
theorem CallW.isi_str {v : V} {T : String} (hT : tyOf H v = some T) (h : Q (.bool (isSub T "str")) H) : CallW C k (.builtin "isinstance") [v, .con (.type "str")] Q R H := fun A a s xs S r => by
  cases r with
  | cons r r1 =>
    cases r1 with
    | cons r1 r2 =>
      cases r2; cases r1
      cases r with
      | none => exact IsiPair.NoneType_str (Post.here (v := .bool false) (by cases hT; exact h) (S.toks _) (.bool _) rfl)
      | bool b => exact IsiPair.bool_str (Post.here (v := .bool false) (by cases hT; exact h) (S.toks _) (.bool _) rfl)
      | int i t => exact IsiPair.int_str (Post.here (v := .bool false) (by cases hT; exact h) (S.toks _) (.bool _) rfl)
      | str x t => exact IsiPair.str_str (Post.here (v := .bool true) (by cases hT; exact h) S (.bool _) rfl)
      | tup ha ho hl => obtain ⟨o, e, c, _⟩ := ha; exact IsiPair.tuple_str e c (Post.here (v := .bool false) (by cases hT; exact h) (S.toks _) (.bool _) rfl)
      | lst ha ho hl => obtain ⟨o, e, c, _⟩ := ha; exact IsiPair.list_str e c (Post.here (v := .bool false) (by cases hT; exact h) (S.toks _) (.bool _) rfl)
      | ref ad =>
        simp only [tyOf] at hT
        split at hT
        · rename_i l e
          obtain ⟨ys, hpl, _⟩ := S.objs _ _ e
          obtain ⟨o, e', c, _⟩ := hpl.isList
          exact IsiPair.list_str e' c (Post.here (v := .bool false) (by cases hT; exact h) (S.toks _) (.bool _) rfl)
        · rename_i m n e
          obtain ⟨f, ⟨o, es, ep, e', hx, _⟩, _⟩ := S.objs _ _ e
          exact IsiPair.dict_str e' hx.1 (Post.here (v := .bool false) (by cases hT; exact h) (S.toks _) (.bool _) rfl)
        · rename_i m n e
          obtain ⟨f, ⟨o, es, ep, e', hx, _⟩, _⟩ := S.objs _ _ e
          exact IsiPair.dict_str e' hx.1 (Post.here (v := .bool false) (by cases hT; exact h) (S.toks _) (.bool _) rfl)
        · cases hT
      | con v => cases hT
theorem CallW.isi_list {v : V} {T : String} (hT : tyOf H v = some T) (h : Q (.bool (isSub T "list")) H) : CallW C k (.builtin "isinstance") [v, .con (.type "list")] Q R H := fun A a s xs S r => by
  cases r with
  | cons r r1 =>
    cases r1 with
    | cons r1 r2 =>
      cases r2; cases r1
      cases r with
      | none => exact IsiPair.NoneType_list (Post.here (v := .bool false) (by cases hT; exact h) (S.toks _) (.bool _) rfl)
      | bool b => exact IsiPair.bool_list (Post.here (v := .bool false) (by cases hT; exact h) (S.toks _) (.bool _) rfl)
      | int i t => exact IsiPair.int_list (Post.here (v := .bool false) (by cases hT; exact h) (S.toks _) (.bool _) rfl)
      | str x t => exact IsiPair.str_list (Post.here (v := .bool false) (by cases hT; exact h) (S.toks _) (.bool _) rfl)
      | tup ha ho hl => obtain ⟨o, e, c, _⟩ := ha; exact IsiPair.tuple_list e c (Post.here (v := .bool false) (by cases hT; exact h) (S.toks _) (.bool _) rfl)
      | lst ha ho hl => obtain ⟨o, e, c, _⟩ := ha; exact IsiPair.list_list e c (Post.here (v := .bool true) (by cases hT; exact h) S (.bool _) rfl)
      | ref ad =>
        simp only [tyOf] at hT
        split at hT
        · rename_i l e
          obtain ⟨ys, hpl, _⟩ := S.objs _ _ e
          obtain ⟨o, e', c, _⟩ := hpl.isList
          exact IsiPair.list_list e' c (Post.here (v := .bool true) (by cases hT; exact h) S (.bool _) rfl)
        · rename_i m n e
          obtain ⟨f, ⟨o, es, ep, e', hx, _⟩, _⟩ := S.objs _ _ e
          exact IsiPair.dict_list e' hx.1 (Post.here (v := .bool false) (by cases hT; exact h) (S.toks _) (.bool _) rfl)
        · rename_i m n e
          obtain ⟨f, ⟨o, es, ep, e', hx, _⟩, _⟩ := S.objs _ _ e
          exact IsiPair.dict_list e' hx.1 (Post.here (v := .bool false) (by cases hT; exact h) (S.toks _) (.bool _) rfl)
        · cases hT
      | con v => cases hT
theorem CallW.isi_tuple {v : V} {T : String} (hT : tyOf H v = some T) (h : Q (.bool (isSub T "tuple")) H) : CallW C k (.builtin "isinstance") [v, .con (.type "tuple")] Q R H := fun A a s xs S r => by
  cases r with
  | cons r r1 =>
    cases r1 with
    | cons r1 r2 =>
      cases r2; cases r1
      cases r with
      | none => exact IsiPair.NoneType_tuple (Post.here (v := .bool false) (by cases hT; exact h) (S.toks _) (.bool _) rfl)
      | bool b => exact IsiPair.bool_tuple (Post.here (v := .bool false) (by cases hT; exact h) (S.toks _) (.bool _) rfl)
      | int i t => exact IsiPair.int_tuple (Post.here (v := .bool false) (by cases hT; exact h) (S.toks _) (.bool _) rfl)
      | str x t => exact IsiPair.str_tuple (Post.here (v := .bool false) (by cases hT; exact h) (S.toks _) (.bool _) rfl)
      | tup ha ho hl => obtain ⟨o, e, c, _⟩ := ha; exact IsiPair.tuple_tuple e c (Post.here (v := .bool true) (by cases hT; exact h) S (.bool _) rfl)
      | lst ha ho hl => obtain ⟨o, e, c, _⟩ := ha; exact IsiPair.list_tuple e c (Post.here (v := .bool false) (by cases hT; exact h) (S.toks _) (.bool _) rfl)
      | ref ad =>
        simp only [tyOf] at hT
        split at hT
        · rename_i l e
          obtain ⟨ys, hpl, _⟩ := S.objs _ _ e
          obtain ⟨o, e', c, _⟩ := hpl.isList
          exact IsiPair.list_tuple e' c (Post.here (v := .bool false) (by cases hT; exact h) (S.toks _) (.bool _) rfl)
        · rename_i m n e
          obtain ⟨f, ⟨o, es, ep, e', hx, _⟩, _⟩ := S.objs _ _ e
          exact IsiPair.dict_tuple e' hx.1 (Post.here (v := .bool false) (by cases hT; exact h) (S.toks _) (.bool _) rfl)
        · rename_i m n e
          obtain ⟨f, ⟨o, es, ep, e', hx, _⟩, _⟩ := S.objs _ _ e
          exact IsiPair.dict_tuple e' hx.1 (Post.here (v := .bool false) (by cases hT; exact h) (S.toks _) (.bool _) rfl)
        · cases hT
      | con v => cases hT

end Mine

set_option Elab.async false
set_option linter.unusedVariables false
namespace Mine
open PySem PyProof.Rows

variable {C : Cx} {k : Nat} {env : Env} {ρ : Rho} {H : Hp} {Q R : V → Hp → Prop} {QB : Bool → Hp → Prop}

mutual
def V.dat : V → PyData
  | .none => .none
  | .bool b => .bool b
  | .int i => .int i
  | .str s => .str s
  | .tup l => .tuple (datL l)
  | .lst l => .list (datL l)
  | .ref _ => .none
  | .con _ => .none
def datL : List V → List PyData
  | [] => []
  | v :: r => v.dat :: datL r
end
mutual
def V.pure : V → Bool
  | .none => true
  | .bool _ => true
  | .int _ => true
  | .str _ => true
  | .tup l => pureL l
  | .lst l => pureL l
  | .ref _ => false
  | .con _ => false
def pureL : List V → Bool
  | [] => true
  | v :: r => v.pure && pureL r
end
mutual
theorem VRel.reads {h : Heap} {H : Hp} : ∀ {v : V} {x : Value}, VRel h H v x → v.pure = true → ∃ as, Reads h x v.dat as
  | _, _, .none, _ => ⟨_, .none⟩
  | _, _, .bool b, _ => ⟨_, .bool b⟩
  | _, _, .int i t, _ => ⟨_, .int i t⟩
  | _, _, .str s t, _ => ⟨_, .str s t⟩
  | _, _, .tup ha ho hl, hp => by
    obtain ⟨o, e, c, n, d⟩ := ha
    obtain ⟨as, r⟩ := VRelL.reads hl (by simpa only [V.pure] using hp)
    exact ⟨as, by simpa only [V.dat] using .tuple e c d r⟩
  | _, _, .lst ha ho hl, hp => by
    obtain ⟨o, e, c, n, d⟩ := ha
    obtain ⟨as, r⟩ := VRelL.reads hl (by simpa only [V.pure] using hp)
    exact ⟨_, by simpa only [V.dat] using .list e c d r⟩
  | _, _, .ref _, hp => by simp [V.pure] at hp
  | _, _, .con _, hp => by simp [V.pure] at hp
theorem VRelL.reads {h : Heap} {H : Hp} : ∀ {v : List V} {x : List Value}, VRelL h H v x → pureL v = true → ∃ as, ReadsAll h x (datL v) as
  | _, _, .nil, _ => ⟨_, by simpa only [datL] using .nil⟩
  | _, _, .cons hv hl, hp => by
    simp only [pureL, Bool.and_eq_true] at hp
    obtain ⟨as, r⟩ := VRel.reads hv hp.1
    obtain ⟨bs, r'⟩ := VRelL.reads hl hp.2
    exact ⟨_, by simpa only [datL] using .cons r r'⟩
end
/-- an owned list, seen as it is now -/
def see (H : Hp) : V → V
  | .ref a => match H a with
    | some (.list l) => .lst l
    | _ => .ref a
  | v => v
theorem see_reads {s : Shared} {v : V} {x : Value} (S : Sim C H s) (r : VRel s.heap H v x) (hp : (see H v).pure = true) : ∃ as, Reads s.heap x (see H v).dat as := by
  cases r with
  | ref a =>
    simp only [see] at hp ⊢
    split at hp
    · rename_i l e
      obtain ⟨xs, hpl, rl⟩ := S.objs _ _ e
      obtain ⟨o, e', c, n, d⟩ := hpl.isList
      obtain ⟨as, r⟩ := VRelL.reads rl (by simpa only [V.pure] using hp)
      exact ⟨_, by simpa only [V.dat] using .list e' c d r⟩
    · simp [V.pure] at hp
  | none => exact VRel.reads (H := H) .none hp
  | bool b => exact VRel.reads (H := H) (.bool b) hp
  | int i t => exact VRel.reads (H := H) (.int i t) hp
  | str i t => exact VRel.reads (H := H) (.str i t) hp
  | tup ha ho hl => exact VRel.reads (.tup ha ho hl) hp
  | lst ha ho hl => exact VRel.reads (.lst ha ho hl) hp
  | con v => simp [see, V.pure] at hp

def okD (d : PyData) : Bool := SeqAt.shaped d
theorem CmpW.eq {v w : V} (hv : (see H v).pure = true) (hw : (see H w).pure = true) (sv : okD (see H v).dat = true) (sw : okD (see H w).dat = true) (h : Q (.bool (PyData.eqv (see H v).dat (see H w).dat)) H) : CmpW C k .Eq v w Q R H := fun A a s x y S r1 r2 => by
  obtain ⟨as, ra⟩ := see_reads S r1 hv
  obtain ⟨bs, rb⟩ := see_reads S r2 hw
  exact eq_dataH ra rb sv sw (by have := a.units; omega) (Post.here h S (.bool _) rfl)
theorem CmpW.ne {v w : V} (hv : (see H v).pure = true) (hw : (see H w).pure = true) (sv : okD (see H v).dat = true) (sw : okD (see H w).dat = true) (h : Q (.bool (!PyData.eqv (see H v).dat (see H w).dat)) H) : CmpW C k .NotEq v w Q R H := fun A a s x y S r1 r2 => by
  obtain ⟨as, ra⟩ := see_reads S r1 hv
  obtain ⟨bs, rb⟩ := see_reads S r2 hw
  exact ne_dataH ra rb sv sw (by have := a.units; omega) (Post.here h S (.bool _) rfl)

/- in: a list or tuple -/
theorem CmpW.inList {v w : V} {l : List V} (hw : lview H w = some l) (pl : pureL l = true) (hv : (see H v).pure = true) (sl : okD (.list (datL l)) = true) (sv : okD (see H v).dat = true) (hm : ∀ y ∈ datL l, SeqAt.noMix y (see H v).dat = true)
    (h : Q (.bool (decide (PySem.Spec.countIn (see H v).dat (datL l) ≠ 0))) H) : CmpW C k .In v w Q R H := fun A a s x y S r1 r2 => by
  obtain ⟨as, ra⟩ := see_reads S r1 hv
  obtain ⟨ad, xs, rfl, ⟨o, e, c, n, d⟩, rl⟩ := lview_list hw S r2
  obtain ⟨bs, rb⟩ := VRelL.reads rl pl
  exact in_list_dataH (.list e c d rb) ra sl sv (by have := a.units; omega) hm (Post.here h S (.bool _) rfl)
theorem CmpW.notInList {v w : V} {l : List V} (hw : lview H w = some l) (pl : pureL l = true) (hv : (see H v).pure = true) (sl : okD (.list (datL l)) = true) (sv : okD (see H v).dat = true) (hm : ∀ y ∈ datL l, SeqAt.noMix y (see H v).dat = true)
    (h : Q (.bool (!decide (PySem.Spec.countIn (see H v).dat (datL l) ≠ 0))) H) : CmpW C k .NotIn v w Q R H := fun A a s x y S r1 r2 => by
  obtain ⟨as, ra⟩ := see_reads S r1 hv
  obtain ⟨ad, xs, rfl, ⟨o, e, c, n, d⟩, rl⟩ := lview_list hw S r2
  obtain ⟨bs, rb⟩ := VRelL.reads rl pl
  exact notIn_list_dataH (.list e c d rb) ra sl sv (by have := a.units; omega) hm (Post.here h S (.bool _) rfl)

/- dicts with int keys -/
theorem Sim.noSys {s : Shared} (S : Sim C H s) {a : Addr} {o : O} (ha : H a = some o) : (a == sysModules) = false := by
  have := (S.new a (by rw [ha]; simp)).2
  simpa using this
theorem CmpW.inI {a : Addr} {m : Int → Option V} {n : Nat} {i : Int} (ha : H a = some (.dictI m n)) (h : Q (.bool (m i).isSome) H) : CmpW C k .In (.int i) (.ref a) Q R H := fun A lv s x y S r1 r2 => by
  cases r1; cases r2
  obtain ⟨f, hm, hle, hr⟩ := S.objs _ _ ha
  refine wpAny_in_of (intKind_is _ _ _ _) (S.noSys ha) hm.mapOf (Post.here (v := .bool (m i).isSome) h (S.toks _) ?_ rfl)
  have := hr i
  cases e1 : m i <;> cases e2 : valueAt f i <;> rw [e1, e2] at this <;> first | exact this.elim | exact .bool _

end Mine

set_option Elab.async false
set_option linter.unusedVariables false
namespace Mine
open PySem PySem.W PyProof.Rows

variable {C : Cx} {k : Nat} {K : Frag}

/-- a def of the text, as the written part of the heap has it -/
theorem FnOK.ofK {a : Addr} {name qual : Str} {params : Arguments} {body : List Stmt} {scope : Scope} {dV kV doc pm cdv ct oc : Value} {an od : Option Addr} {osl : Array (Option Value)} {S : SpecT} (names : List Str)
    (X : K.In C.base) (lim : C.base.NoLimit) (ho : K.lookup a = some ⟨oc, od, .func (fnOf name qual params body scope dV kV doc pm an cdv ct), osl⟩) (hcd : codeIn K cdv qual = true)
    (hbind : ∀ vals : List Value, vals.length = names.length → bindArgs (fnOf name qual params body scope dV kV doc pm an cdv ct) ⟨vals, []⟩ = pure (names.zip vals))
    (hk : (names.all fun n => scope.names.lookup n == some .local || scope.names.lookup n == some .cell) = true) (hfl : (!scope.isCoroutine && !scope.isGenerator && scope.kind == .function) = true)
    (h : ∀ args Q R H, S args Q R H → args.length = names.length ∧ ∀ L, ExecsW C k (envOfC qual scope L a cdv) body (RetQ Q) (fun _ _ _ => False) (bindRho (fun _ => none) names args) H) :
    FnOK C (k + 1) (.ref a) S := by
  simp only [Bool.and_eq_true, Bool.not_eq_true', beq_iff_eq] at hfl
  have D : FnDef C a (fnOf name qual params body scope dV kV doc pm an cdv ct) names body :=
    ⟨⟨_, X _ _ ho, rfl⟩, lim, codeRec_of X hcd, rfl, rfl, rfl, rfl, hfl.1.1, hfl.1.2, hfl.2, hbind, fun n hn => by
      have := List.all_eq_true.mp hk n hn
      simpa using this⟩
  exact FnOK.of_def D h
end Mine

set_option Elab.async false
set_option linter.unusedVariables false
namespace Mine
open PySem PySem.W PyProof.Rows

structure PCx (C : Cx) (K : Frag) : Prop where
  X : K.In C.base
  lim : C.base.NoLimit
  ns : ∃ mg mb, C.base.Ns mainGlobals mg ∧ C.base.Ns builtinsNs mb ∧ ∀ x : Str, x ≠ "__name__" → mb x = bootBuiltins x
  hd : C.hd = true
variable {C : Cx} {K : Frag}
theorem PCx.glob (P : PCx C K) {x : Str} {v : Value} (e : nsIn K mainGlobals x = some (some v)) : GlobalV C x (.con v) :=
  let ⟨mg, mb, g, b, h⟩ := P.ns; ⟨v, .inl ⟨mg, g, mg_of P.X g e⟩, fun _ _ => .con v⟩
theorem PCx.blt (P : PCx C K) {x : Str} {v : Value} (e : nsIn K mainGlobals x = some none) (hv : bootBuiltins x = some v) (hn : x ≠ "__name__" := by decide) : GlobalV C x (.con v) :=
  let ⟨mg, mb, g, b, h⟩ := P.ns; ⟨v, .inr ⟨mg, mb, g, mg_none_of P.X g e, b, (h x hn).trans hv⟩, fun _ _ => .con v⟩
end Mine

set_option Elab.async false
set_option linter.unusedVariables false
namespace Mine
open PySem PySem.W PyProof.Rows
def stAt (p : Program) (i : Nat) : Option Stmt := p.main.body[i]?
def stIn (p : Program) (i j : Nat) : Option Stmt := match p.main.body[i]? with
  | some (.ClassDef _ _ _ b ..) => b[j]?
  | _ => none
def fnTri : Option Stmt → Arguments × List Stmt × Scope
  | some (.FunctionDef _ a b _ _ _ sc ..) => (a, b, sc)
  | _ => (default, [], default)
def fobj (s : Option Stmt) (name qual : Str) (dV kV doc pm : Value) (an : Option Addr) (cdv ct : Value) : Obj :=
  ⟨.type "function", none, .func (fnOf name qual (fnTri s).1 (fnTri s).2.1 (fnTri s).2.2 dV kV doc pm an cdv ct), #[]⟩
variable {C : Cx} {K : Frag}
theorem FnOK.ofS {k : Nat} {a : Addr} {s : Option Stmt} {name qual : Str} {params : Arguments} {body : List Stmt} {scope : Scope} {dV kV doc pm cdv ct : Value} {an : Option Addr} {S : SpecT} (names : List Str)
    (X : K.In C.base) (lim : C.base.NoLimit) (ho : K.lookup a = some (fobj s name qual dV kV doc pm an cdv ct)) (hs : fnTri s = (params, body, scope)) (hcd : codeIn K cdv qual = true)
    (hbind : ∀ vals : List Value, vals.length = names.length → bindArgs (fnOf name qual params body scope dV kV doc pm an cdv ct) ⟨vals, []⟩ = pure (names.zip vals))
    (hk : (names.all fun n => scope.names.lookup n == some .local || scope.names.lookup n == some .cell) = true) (hfl : (!scope.isCoroutine && !scope.isGenerator && scope.kind == .function) = true)
    (h : ∀ args Q R H, S args Q R H → args.length = names.length ∧ ∀ L, ExecsW C k (envOfC qual scope L a cdv) body (RetQ Q) (fun _ _ _ => False) (bindRho (fun _ => none) names args) H) :
    FnOK C (k + 1) (.ref a) S := by
  unfold fobj at ho
  rw [hs] at ho
  exact FnOK.ofK names X lim ho hcd hbind hk hfl h
theorem Plainly.ofS {a : Addr} {s : Option Stmt} {name qual : Str} {dV kV doc pm cdv ct : Value} {an : Option Addr}
    (X : K.In C.base) (ho : K.lookup a = some (fobj s name qual dV kV doc pm an cdv ct)) : Plainly C (.ref a) := Plainly.fn (X _ _ ho) rfl
end Mine

set_option Elab.async false
set_option linter.unusedVariables false
namespace Mine
open PySem PySem.W PyProof.Rows

variable {C : Cx} {k : Nat} {env : Env} {ρ : Rho} {H : Hp} {Q R : V → Hp → Prop} {QB : Bool → Hp → Prop} {QS : Fl → Rho → Hp → Prop} {RS : V → Rho → Hp → Prop}

theorem ExecW.expr {e p} (h : EvalW C k env e (fun _ H' => QS .next ρ H') (fun v H' => RS v ρ H') ρ H) (hi : interactive env = false := by rfl) (hs : swapsWith e Option.none p.line env = pure false := by rfl) :
    ExecW C k env (.Expr e p) QS RS ρ H := fun A a s S =>
  wpAny_Expr_any (wpAny_mono (h A a s S) (fun x s' ⟨v, H', q, S', r, E⟩ => ⟨.next, ρ, H', q, trivial, S.ext S' E, E.toF⟩) fun _ _ p => p.toX S) hi hs

/- chains of two comparisons -/
/- empty dicts -/
theorem newDict_W {A : Around} {s : Shared} {E : Value → Shared → Prop} {P : Value → Shared → Prop} (S : Sim C H s) (o : O) (ho : o = .dictI (fun _ => Option.none) 0 ∨ o = .dictS (fun _ => Option.none) 0)
    (h : ∀ a s', H a = Option.none → Sim C (H.set a o) s' → Ext H s.heap (H.set a o) s'.heap → P (.ref a) s') : wpAny C.M A newDict P E s := by
  have hk : ∀ b o, s.heap.get? b = some o → (s.heap.push { cls := .type "dict", data := .dict #[] }).get? b = some o := fun b o e => Heap.get?_push_of_some _ e
  refine wpAny_newObj_type ?_
  have r : ORel C (s.heap.push { cls := .type "dict", data := .dict #[] }) (H.set s.heap.objs.size o) s.heap.objs.size o := by
    rcases ho with rfl | rfl
    · exact ⟨[], Heap.DictOf.new _, Nat.le_refl _, fun _ => trivial⟩
    · exact ⟨[], Heap.DictOf.new _, Nat.le_refl _, fun _ => trivial⟩
  obtain ⟨S', E'⟩ := S.alloc (s' := { s with heap := s.heap.push { cls := .type "dict", data := .dict #[] } }) hk rfl rfl r
  exact h _ _ (S.fresh (Nat.le_refl _)) S' E'
theorem EvalW.dictI {p} (h : ∀ a, H a = Option.none → Q (.ref a) (H.set a (.dictI (fun _ => Option.none) 0))) : EvalW C k env (.Dict [] [] p) Q R ρ H := fun A a s S => by
  rw [eval_Dict_empty]
  exact wpAny_bind (wpAny_standAt (newDict_W S.sim _ (.inl rfl) fun b s' n S' E' => ⟨_, _, h b n, S', .ref b, E'⟩))
/- item stores -/
theorem valueAt_stored' {K : Type} [DecidableEq K] (kvs : List (K × Value)) (k x : K) (v : Value) : valueAt (stored kvs k v) x = if x = k then some v else valueAt kvs x := by
  unfold valueAt stored
  split
  · rename_i hany
    induction kvs with
    | nil => simp at hany
    | cons p r ih =>
      obtain ⟨a, b⟩ := p
      by_cases hak : a = k
      · subst hak
        by_cases hx : x = a
        · subst hx; simp
        · have : ¬ a = x := fun e => hx e.symm
          by_cases hr : (r.any fun kv => decide (kv.1 = a)) = true
          · have ih' := ih hr
            simp only [hx, if_false] at ih' ⊢
            simp only [List.map_cons, if_true, List.find?_cons, this, decide_false]
            exact ih'
          · have hmap : r.map (fun kv => if kv.1 = a then (kv.1, v) else kv) = r := by
              refine (List.map_congr_left fun y hy => ?_).trans (List.map_id r)
              have : ¬ y.1 = a := fun e => hr (List.any_eq_true.mpr ⟨y, hy, by simp [e]⟩)
              simp [this]
            simp only [hx, if_false, List.map_cons, if_true, List.find?_cons, this, decide_false, hmap]
      · have hr : (r.any fun kv => decide (kv.1 = k)) = true := by simpa [hak] using hany
        have ih' := ih hr
        simp only [List.map_cons, hak, if_false, List.find?_cons]
        by_cases hx : a = x
        · subst hx; simp [hak]
        · simp only [hx, decide_false]; exact ih'
  · rename_i hany
    rw [List.find?_append]
    by_cases hx : x = k
    · subst hx
      have : kvs.find? (fun kv => decide (kv.1 = x)) = Option.none := by
        rw [List.find?_eq_none]; intro y hy; simp; intro e; exact hany (List.any_eq_true.mpr ⟨y, hy, by simp [e]⟩)
      simp [this]
    · have : ¬ k = x := fun e => hx e.symm
      simp [hx, this]

def SetW (C : Cx) (k : Nat) (v i u : V) (Q : Hp → Prop) (R : V → Hp → Prop) (H : Hp) : Prop :=
  ∀ A, Lv C k A → ∀ s x y z, Sim C H s → VRel s.heap H v x → VRel s.heap H i y → VRel s.heap H u z → wpAny C.M A (setItem x y z) (Post C H s.heap (fun _ _ (_ _ : Unit) => True) (fun _ H' => Q H')) (Post C H s.heap VRel R) s
theorem ExecW.assign_sub {o i p' e p} (h : EvalW C k env e (fun u H₁ => EvalW C k env o (fun v H₂ => EvalW C k env i (fun j H₃ => SetW C k v j u (fun H₄ => QS .next ρ H₄) (fun w H' => RS w ρ H') H₃) (fun w H' => RS w ρ H') ρ H₂) (fun w H' => RS w ρ H') ρ H₁) (fun w H' => RS w ρ H') ρ H)
    (hs : swapsWith e (some (.Subscript o i p')) p.line env = pure false := by rfl) : ExecW C k env (.Assign [.Subscript o i p'] e p) QS RS ρ H := fun A a s S => by
  refine wpAny_Assign_Subscript (wp_go (h A a s S) (fun z u H₁ s₁ h₁ S₁ r₁ E₁ => ?_) fun _ _ p => p.toX S) hs
  refine wp_go (h₁ A a s₁ (S.ext S₁ E₁)) (fun x v H₂ s₂ h₂ S₂ r₂ E₂ => ?_) fun _ _ p => (p.after E₁).toX S
  refine wp_go (h₂ A a s₂ (S.ext S₂ (E₁.trans E₂))) (fun y j H₃ s₃ h₃ S₃ r₃ E₃ => ?_) fun _ _ p => (p.after (E₁.trans E₂)).toX S
  refine wpAny_mono (h₃ A a s₃ x y z S₃ (r₂.ext E₃) r₃ (r₁.ext (E₂.trans E₃))) ?_ fun _ _ p => (p.after ((E₁.trans E₂).trans E₃)).toX S
  rintro _ s₄ ⟨_, H₄, q, S₄, _, E₄⟩
  have E := ((E₁.trans E₂).trans E₃).trans E₄
  exact ⟨.next, ρ, H₄, q, trivial, S.ext S₄ E, E.toF⟩
theorem SetW.dictI {a : Addr} {m : Int → Option V} {n : Nat} {i : Int} {u : V} {QH : Hp → Prop} (ha : H a = some (.dictI m n)) (hn : n ≤ 100000) (h : QH (H.set a (.dictI (fun x => if x = i then some u else m x) (n + 1)))) : SetW C k (.ref a) (.int i) u QH R H := fun A lv s x y z S r1 r2 r3 => by
  cases r1; cases r2
  obtain ⟨f, hm, hle, hr⟩ := S.objs _ _ ha
  refine wpAny_setItem_pairs (intKind_is _ _ _ _) hm (fun h' hm' hs => ?_) (Nat.le_trans hle (Nat.le_trans hn (by decide)))
  have hex : ∃ ob, h'.get? a = some ob := let ⟨o, _, _, e, _⟩ := hm'; ⟨o, e⟩
  have hne : ∀ b, H b = none → b ≠ a := fun b e q => by subst q; rw [ha] at e; cases e
  have E0 : ∀ o', ExtV H s.heap (H.set a o') h' := fun o' b ob _ _ e _ n => ⟨(hs.2 b (hne b n)).trans e, by unfold Hp.set; rw [if_neg (hne b n)]; exact n⟩
  obtain ⟨S', E'⟩ := S.update (s' := { s with heap := h', toks := s.toks + 1 }) (o' := .dictI (fun x => if x = i then some u else m x) (n + 1)) ha hs hex rfl rfl
    ⟨_, hm', Nat.le_trans (stored_length_le _ _ _) (Nat.succ_le_succ hle), fun x => by
      rw [valueAt_stored']
      by_cases q : x = i
      · simp only [q, if_true]; exact r3.extV (E0 _)
      · simp only [q, if_false]; exact (hr x).extV (E0 _)⟩
  exact ⟨(), _, h, S', trivial, E'⟩
end Mine

set_option Elab.async false
set_option linter.unusedVariables false
namespace Mine
open PySem PySem.W PyProof.Rows

variable {C : Cx} {k : Nat} {env : Env} {ρ : Rho} {H : Hp} {Q R : V → Hp → Prop} {QB : Bool → Hp → Prop} {QS : Fl → Rho → Hp → Prop} {RS : V → Rho → Hp → Prop}

theorem VRelL.bools {h : Heap} : ∀ {bs : List Bool} {xs : List Value}, VRelL h H (bs.map V.bool) xs → xs = bs.map Value.bool
  | [], _, .nil => rfl
  | b :: bs, _, .cons r rl => by cases r; rw [rl.bools]; rfl
theorem truthOf_bools {A : Around} {prog : Program} {w : World} {xs : Array Value} {bs : List Bool} (e : xs.toList = bs.map Value.bool) : TruthOf prog w A (fun i v => xs[i]? = some v) (fun i => bs.getD i false) := by
  intro i v s Q E hv hq
  have : xs.toList[i]? = some v := by simpa using hv
  rw [e, List.getElem?_map] at this
  obtain ⟨b, hb, rfl⟩ := Option.map_eq_some_iff.mp this
  refine wpAny_truthy_bool ?_
  simpa [List.getD, hb] using hq
theorem range_all (bs : List Bool) : (List.range bs.length).all (fun i => bs.getD i false) = bs.all id := by
  rw [Bool.eq_iff_iff]
  simp only [List.all_eq_true, List.mem_range]
  constructor
  · intro h b hb
    obtain ⟨i, hi, rfl⟩ := List.mem_iff_getElem.mp hb
    simpa [List.getD, hi] using h i hi
  · intro h i hi
    simpa [List.getD, hi] using h bs[i] (List.getElem_mem hi)
theorem iter_list_W {A : Around} {s : Shared} {a : Addr} {xs : Array Value} (S : Sim C H s) (hl : s.heap.IsList a xs) {P : Value → Shared → Prop} {E : Value → Shared → Prop} (hh : A.handled = none)
    (h : ∀ I s', Walks C.prog C.w A I [I, a] [I] xs.size (fun i v => xs[i]? = some v) (fun i h => h.IsListIter I a i ∧ h.IsList a xs) → (s'.heap.IsListIter I a 0 ∧ s'.heap.IsList a xs) → s.heap.objs.size ≤ I →
      (∀ b o, s.heap.get? b = some o → s'.heap.get? b = some o) → s'.gens = s.gens → s'.os = s.os → P (.ref I) s') : wpAny C.M A (pyIter (.ref a)) P E s := by
  refine wpAny_pyIter_list hl (h _ _ (Walks.list hh _ a ?_ xs) ⟨⟨_, Heap.get?_push_size _ rfl, rfl, rfl⟩, hl.push _⟩ (Nat.le_refl _) (fun b o e => Heap.get?_push_of_some _ e) rfl rfl)
  obtain ⟨o, e, _⟩ := hl
  exact Nat.ne_of_lt (Heap.lt_size e)

theorem CallW.all {v : V} {bs : List Bool} (hd : C.hd = true) (hl : lview H v = some (bs.map .bool)) (h : Q (.bool (bs.all id)) H) : CallW C k (.builtin "all") [v] Q R H := fun A a s xs S r => by
  cases r with
  | cons r r' =>
    cases r'
    obtain ⟨ad, ys, rfl, hL, rl⟩ := lview_list hl S r
    have e := rl.bools
    have hz : ys.size = bs.length := by have := rl.length; simpa using this
    refine call_all_walk (iter_list_W S hL (a.handled hd) fun I s' W st hI hk hg ho => ⟨I, _, _, _, _, _, _, rfl, W, st, truthOf_bools e, fun h' tk hk' => ?_⟩)
    rw [hz, range_all]
    have hk2 : ∀ b o, s.heap.get? b = some o → h'.get? b = some o := fun b o q => hk' b o (fun m => by simp at m; subst m; exact absurd (Heap.lt_size q) (Nat.not_lt.mpr hI)) (hk b o q)
    exact ⟨_, H, h, S.grown (s' := { s' with heap := h', toks := tk }) hk2 hg ho, .bool _, Ext.grown hk2⟩
/-- a new list laid at the heap's end -/
theorem newAt_W {s s' : Shared} {l : List V} {xs : Array Value} (S : Sim C H s) (hk : ∀ b o, s.heap.get? b = some o → s'.heap.get? b = some o) (hl : s'.heap.PlainList s.heap.objs.size xs) (r : VRelL s.heap H l xs.toList) (hg : s'.gens = s.gens) (ho : s'.os = s.os)
    (h : ∀ a, H a = Option.none → Q (.ref a) (H.set a (.list l))) : Post C H s.heap VRel Q (.ref s.heap.objs.size) s' := by
  have E0 : Ext H s.heap (H.set s.heap.objs.size (.list l)) s'.heap :=
    ⟨fun a ob e _ => hk a ob e, fun a ob e n => by unfold Hp.set; rw [if_neg (Nat.ne_of_lt (Heap.lt_size e))]; exact n, fun a ob e => ⟨ob, hk a ob e⟩⟩
  obtain ⟨S', E'⟩ := S.alloc hk hg ho (o := .list l) ⟨xs, hl, r.ext E0⟩
  exact ⟨_, _, h _ (S.fresh (Nat.le_refl _)), S', .ref _, E'⟩

theorem CallW.listCopy {v : V} {l : List V} (hl : lview H v = some l) (hn : l.length ≤ 100000) (h : ∀ a, H a = Option.none → Q (.ref a) (H.set a (.list l))) : CallW C k (.type "list") [v] Q R H := fun A a s xs S r => by
  cases r with
  | cons r r' =>
    cases r'
    obtain ⟨ad, ys, rfl, ⟨o, e, c, n, d⟩, rl⟩ := lview_list hl S r
    have hz : ys.size = l.length := by have := rl.length; simpa using this
    refine call_list_seq (hsz := by rw [hz]; exact Nat.le_trans hn (by decide)) ad (.inl rfl) e c d fun h' c' hk hD => ?_
    exact newAt_W S hk ⟨_, hD⟩ rl rfl rfl h
theorem BinW.addL {v w : V} {l l' : List V} (hv : lview H v = some l) (hw : lview H w = some l') (hn : l.length + l'.length ≤ 100000) (h : ∀ a, H a = Option.none → Q (.ref a) (H.set a (.list (l ++ l')))) : BinW C k .Add v w Q R H := fun A a s x y S r1 r2 => by
  obtain ⟨a1, xs, rfl, hL, rl⟩ := lview_list hv S r1
  obtain ⟨a2, ys, rfl, hL', rl'⟩ := lview_list hw S r2
  have hz : xs.size = l.length := by have := rl.length; simpa using this
  have hz' : ys.size = l'.length := by have := rl'.length; simpa using this
  obtain ⟨⟨cls, dd, data, sl⟩, ho, hc, n, hd⟩ := id hL
  obtain ⟨⟨cls2, dd2, data2, sl2⟩, ho2, hc2, n2, hd2⟩ := id hL'
  simp only at hc hd hc2 hd2
  subst hc hd hc2 hd2
  refine concat_meets ⟨_, ho, rfl⟩ ⟨_, ho2, rfl⟩ noFill_list_add seq_list_add PySem.F.slot_list_add PySem.F.entry_list_add (PySem.F.args_list_add_2 _ _) (list_addW a1 a2 xs ys n n2 dd dd2 sl sl2 (by rw [hz, hz']; exact Nat.le_trans hn (by decide))) ⟨ho, ho2, ?_⟩
  exact newAt_W S (fun b o e => Heap.get?_push_of_some _ e) ⟨_, Heap.get?_push_size _ rfl⟩ (by simpa using rl.append rl') rfl rfl h

end Mine

set_option Elab.async false
set_option linter.unusedVariables false
namespace Mine
open PySem PySem.W PyProof.Rows

variable {C : Cx} {k : Nat} {env : Env} {ρ : Rho} {H : Hp} {Q R : V → Hp → Prop} {QB : Bool → Hp → Prop} {QS : Fl → Rho → Hp → Prop} {RS : V → Rho → Hp → Prop}

end Mine

set_option Elab.async false
set_option linter.unusedVariables false
namespace Mine
open PySem PySem.W PyProof.Rows

variable {C : Cx} {k : Nat} {env : Env} {ρ : Rho} {H : Hp} {Q R : V → Hp → Prop} {QB : Bool → Hp → Prop} {QS : Fl → Rho → Hp → Prop} {RS : V → Rho → Hp → Prop}

theorem MethIs.list {a : Addr} {l : List V} {name : Str} {id : String} (ha : H a = some (.list l)) (slot : Slot "list" name id) (hty : typeOf (.builtin id) = pure (.type "method_descriptor")) : MethIs C H (.ref a) name (.builtin id) := by
  intro A s x pl Q E S r hq
  cases r
  obtain ⟨xs, ⟨n, ho⟩, rl⟩ := S.objs _ _ ha
  exact getMethod_builtin ⟨_, ho, rfl⟩ PySem.F.plainAttrs_list slot hty (fun a e => by cases e; exact ⟨_, ho, rfl⟩) hq
theorem MethIs.append {a : Addr} {l : List V} (ha : H a = some (.list l)) : MethIs C H (.ref a) "append" (.builtin "list.append") := MethIs.list ha slot_list_append type_list_append

theorem CallW.append {a : Addr} {l : List V} {v : V} (ha : H a = some (.list l)) (hn : l.length ≤ 1000) (h : Q .none (H.set a (.list (l ++ [v])))) : CallW C k (.builtin "list.append") [.ref a, v] Q R H := fun A lv s xs S r => by
  cases r with
  | cons r1 r' => cases r' with
    | cons r2 r' => cases r'; cases r1; exact append_W S ha hn r2 fun s' S' E' => ⟨.none, _, h, S', .none, E'⟩

theorem lview_ref {a : Addr} {l : List V} (ha : H a = some (.list l)) : lview H (.ref a) = some l := by simp [lview, ha]
theorem lview_le {H H' : Hp} (hle : Hp.le H H') {v : V} {l : List V} (h : lview H v = some l) : lview H' v = some l := by
  cases v with
  | ref a =>
    simp only [lview] at h ⊢
    split at h
    · rename_i l' e; cases h; rw [hle _ _ e]
    · cases h
  | _ => exact h
theorem Hp.le_trans {H H' H'' : Hp} (x : Hp.le H H') (y : Hp.le H' H'') : Hp.le H H'' := fun a o e => y a o (x a o e)
theorem Hp.le_set {H : Hp} {a : Addr} {o : O} (ha : H a = Option.none) : Hp.le H (H.set a o) := fun b ob e => by
  unfold Hp.set; split
  · rename_i q; subst q; rw [ha] at e; cases e
  · exact e
theorem Hp.set_self (H : Hp) (a : Addr) (o : O) : (H.set a o) a = some o := by simp [Hp.set]
theorem Hp.set_ne {H : Hp} {a b : Addr} {o : O} (h : b ≠ a) : (H.set a o) b = H b := by simp [Hp.set, h]
theorem Hp.set_set (H : Hp) (a : Addr) (o o' : O) : (H.set a o).set a o' = H.set a o' := by
  funext b; simp only [Hp.set]; split <;> rfl
theorem lcond_le {H H' : Hp} {v : V} {l : List V} (h : lview H v = some l) (hle : Hp.le H H') : lcond v l H' := lview_le hle h

/-- names by a list -/
def Rho.of : List (Str × V) → Rho
  | [] => fun _ => Option.none
  | (x, v) :: l => (Rho.of l).set x v
def Rho.sat : List (Str × V) → Rho → Prop
  | [], _ => True
  | (x, v) :: l, ρ => ρ x = some v ∧ Rho.sat l ρ
theorem Rho.sat.le : ∀ {l : List (Str × V)} {ρ : Rho}, Rho.sat l ρ → Rho.le (Rho.of l) ρ
  | [], ρ, _ => fun y w e => by cases e
  | (x, v) :: l, ρ, h => fun y w e => by
    simp only [Rho.of, Rho.set] at e
    split at e
    · rename_i q; subst q; cases e; exact h.1
    · exact Rho.sat.le h.2 y w e
theorem Rho.le_refl (ρ : Rho) : Rho.le ρ ρ := fun _ _ e => e

theorem ExecsW.conseq {sts} {Q' : Fl → Rho → Hp → Prop} (h : ExecsW C k env sts Q' RS ρ H) (hq : ∀ fl ρ₁ H₁, Q' fl ρ₁ H₁ → ∃ ρ₂, Rho.le ρ₂ ρ₁ ∧ QS fl ρ₂ H₁) : ExecsW C k env sts QS RS ρ H := fun A a s S =>
  wpAny_mono (h A a s S) (fun x s' ⟨fl, ρ₁, H₁, q, r, S', E⟩ => let ⟨ρ₂, hle, q'⟩ := hq fl ρ₁ H₁ q; ⟨fl, ρ₂, H₁, q', r, S'.weaken hle, E⟩) fun _ _ p => p
theorem AssignW.conseq {t v} {P P' : Rho → Prop} (h : AssignW C k env t v P ρ H) (hp : ∀ ρ, P ρ → P' ρ) : AssignW C k env t v P' ρ H := fun A a s x S r P₀ E hP => h A a s x S r P₀ E fun ρ' s' q => hP ρ' s' (hp _ q)

/-- what a loop's body leaves -/
def LoopQ (Inv : List (Str × V) → Hp → Prop) (QS : Fl → Rho → Hp → Prop) : Fl → Rho → Hp → Prop
  | .next, ρ, H => ∃ l, Inv l H ∧ Rho.sat l ρ
  | .cont, ρ, H => ∃ l, Inv l H ∧ Rho.sat l ρ
  | .brk, ρ, H => QS .next ρ H
  | .ret u, ρ, H => QS (.ret u) ρ H

theorem ExecW.for_in {target iter body pos} (tup : Bool) (hd : C.hd = true) (ht : IsTupleE tup target)
    (h : IterE C k env tup iter (fun items cond H₁ => ∃ Inv : List V → List (Str × V) → Hp → Prop, (∃ l, Inv items l H₁ ∧ Rho.sat l ρ) ∧ (∀ r l H, Inv r l H → cond H) ∧
      (∀ v r l H, Inv (v :: r) l H → AssignW C k env target v (fun ρ' => ExecsW C k env body (LoopQ (Inv r) QS) (fun _ _ _ => False) ρ' H) (Rho.of l) H) ∧
      (∀ l H, Inv [] l H → QS .next (Rho.of l) H)) (fun v H' => RS v ρ H') ρ H)
    (hs : ∀ x, foldedSetIterable iter env x = pure x := by intro _; rfl) : ExecW C k env (.For target iter body [] pos) QS RS ρ H := fun A a s S => by
  refine wpAny_For ?_ hs
  refine h A a s S _ _ (fun _ _ p => p.toX S) ?_
  rintro I wr St items cond H₂ s₂ ⟨Inv, ⟨l, hi, hl⟩, hc, step, fin⟩ IT hcd st hn S₂ E₂
  refine for_core IT ht hd a (ρ := Rho.of l) (fun r ρ H => ∃ l, ρ = Rho.of l ∧ Inv r l H) (fun r ρ H ⟨l, _, h⟩ => hc r l H h) ?_ ?_ hn (fun f s' p => p) items s₂ ((S.ext S₂ E₂).weaken hl.le) E₂.toF st ⟨l, rfl, hi⟩
  · rintro v r ρ H ⟨l, rfl, hi⟩
    refine (step v r l H hi).conseq fun ρ' hb => hb.conseq fun fl ρ₁ H₁ q => ?_
    cases fl with
    | next => obtain ⟨l', i', s'⟩ := q; exact ⟨_, s'.le, l', rfl, i'⟩
    | cont => obtain ⟨l', i', s'⟩ := q; exact ⟨_, s'.le, l', rfl, i'⟩
    | brk => exact ⟨_, Rho.le_refl _, q⟩
    | ret u => exact ⟨_, Rho.le_refl _, q⟩
  · rintro ρ H ⟨l, rfl, hi⟩; exact fin l H hi

/-- a comprehension over one name, with no effect but the list that it makes -/
def PureStep (C : Cx) (k : Nat) (env : Env) (x : Str) (elt : Expr) (ifs : List Expr) (scope : Scope) (ρ : Rho) (g : V → Option V) (H : Hp) (v : V) : Prop :=
  ∀ L, IfsW C k (cenvOf env scope L) ifs (fun b H₂ => H₂ = H ∧ if b = true then EvalW C k (cenvOf env scope L) elt (fun u H₃ => H₃ = H ∧ g v = some u) (fun _ _ => False) ((Rho.hide scope ρ).set x v) H else g v = Option.none) (fun _ _ => False) ((Rho.hide scope ρ).set x v) H

def compVar (env : Env) (scope : Scope) (x : Str) : Bool := scope.names.lookup x == some .local && ((cenvOf env scope 0).scope.names.lookup x == some .local)
theorem compVar.hide {scope : Scope} {x : Str} (h : compVar env scope x = true) : scope.names.lookup x = some .local := by
  simp only [compVar, Bool.and_eq_true] at h; exact eq_of_beq h.1
theorem compVar.kind {scope : Scope} {x : Str} (h : compVar env scope x = true) (L : Addr) : (cenvOf env scope L).kindOf x = some .local := by
  simp only [compVar, Bool.and_eq_true] at h; exact eq_of_beq h.2
theorem Rho.le_hide {scope : Scope} {x : Str} {v : V} (hx : scope.names.lookup x = some .local) : Rho.le (Rho.hide scope ρ) ((Rho.hide scope ρ).set x v) := fun y w e => by
  unfold Rho.set
  split
  · rename_i q; subst q; unfold Rho.hide at e; rw [if_pos hx] at e; cases e
  · exact e

theorem EvalW.conseq {e} {Q' R' : V → Hp → Prop} (h : EvalW C k env e Q' R' ρ H) (hq : ∀ v H, Q' v H → Q v H) (hr : ∀ v H, R' v H → R v H) : EvalW C k env e Q R ρ H := fun A a s S =>
  wpAny_mono (h A a s S) (fun x s' ⟨v, H', q, r⟩ => ⟨v, H', hq _ _ q, r⟩) fun x s' ⟨v, H', q, r⟩ => ⟨v, H', hr _ _ q, r⟩
theorem IfsW.conseq {e} {Q' : Bool → Hp → Prop} {R' : V → Hp → Prop} (h : IfsW C k env e Q' R' ρ H) (hq : ∀ v H, Q' v H → QB v H) (hr : ∀ v H, R' v H → R v H) : IfsW C k env e QB R ρ H := fun A a s S =>
  wpAny_mono (h A a s S) (fun x s' ⟨v, H', q, r⟩ => ⟨v, H', hq _ _ q, r⟩) fun x s' ⟨v, H', q, r⟩ => ⟨v, H', hr _ _ q, r⟩

theorem pure_inv {x p elt ifs scope} {H₁ : Hp} {items : List V} (g : V → Option V) (hx : compVar env scope x = true) (hlen : items.length ≤ 1000)
    (hst : ∀ v ∈ items, ∀ H', Hp.le H₁ H' → PureStep C k env x elt ifs scope ρ g H' v) :
    CompInv C k env elt (.Name x p) ifs scope ρ (fun D r acc H => ∃ done, items = done ++ r ∧ acc = done.filterMap g ∧ H₁ D = none ∧ H = H₁.set D (.list acc)) := by
  constructor
  · rintro D r acc H ⟨done, e1, e2, e3, e4⟩
    refine ⟨by rw [e4, Hp.set_self], ?_⟩
    have : (done.filterMap g).length ≤ done.length := List.length_filterMap_le ..
    have h2 : items.length = done.length + r.length := by rw [e1]; simp
    rw [e2]; omega
  · rintro L D v r acc H ⟨done, e1, e2, e3, rfl⟩
    refine AssignL.name (compVar.kind hx L) ⟨Rho.le_hide (compVar.hide hx), ?_⟩
    refine (hst v (by rw [e1]; simp) (H₁.set D (.list acc)) (Hp.le_set e3) L).conseq ?_ (fun _ _ h => h)
    rintro b H₂ ⟨rfl, hb⟩
    cases b
    · simp only [Bool.false_eq_true, if_false] at hb ⊢
      exact ⟨done ++ [v], by rw [e1]; simp, by rw [e2]; simp [hb], e3, by trivial⟩
    · simp only [if_true] at hb ⊢
      refine hb.conseq ?_ (fun _ _ h => h)
      rintro u H₃ ⟨rfl, hg⟩
      refine ⟨Hp.set_self .., done ++ [v], by rw [e1]; simp, by rw [e2]; simp [hg], e3, ?_⟩
      rw [Hp.set_set]

theorem fz_new {D : Addr} {acc : List V} (hD : H D = none) : Fz (H.set D (.list acc)) (.ref D) (.lst acc) H := by
  refine Fz.of (D := fun a => a = D) (.thaw rfl (Hp.set_self ..) (FzRL_refl acc)) (Hp.le_set hD) ?_
  rintro a rfl; exact hD
where FzRL_refl {H : Hp} {D : Addr → Prop} : ∀ l : List V, FzRL H D l l
  | [] => .nil
  | v :: l => .cons (.refl v) (FzRL_refl l)

/-- ends in a frozen list -/
theorem EvalW.compP {x p elt iter ifs scope pos} (g : V → Option V) (cs : compOk env scope = true) (hd : C.hd = true) (hx : compVar env scope x = true)
    (h : IterE C k env false iter (fun items cond H₁ => items.length ≤ 1000 ∧ (∀ H', Hp.le H₁ H' → cond H') ∧ (∀ v ∈ items, ∀ H', Hp.le H₁ H' → PureStep C k env x elt ifs scope ρ g H' v) ∧ Q (.lst (items.filterMap g)) H₁) R ρ H)
    (hs : ∀ x, foldedSetIterable iter env x = pure x := by intro _; rfl) :
    EvalW C k env (.ListComp elt [⟨.Name x p, iter, ifs, 0⟩] scope pos) Q R ρ H := by
  refine EvalW.comp false cs hd (fun e => by cases e) ?_ hs
  intro A a s S P PE hPE hP
  refine h A a s S P PE hPE ?_
  rintro I wr St items cond H₂ s₂ ⟨h1, h2, h3, h4⟩
  refine hP I wr St items cond H₂ s₂ ⟨_, pure_inv g hx h1 h3, fun D hD => ⟨[], rfl, rfl, hD, rfl⟩, ?_, ?_⟩
  · rintro D r acc H ⟨done, _, _, e3, rfl⟩; exact h2 _ (Hp.le_set e3)
  · rintro D acc H' ⟨done, e1, e2, e3, rfl⟩
    refine ⟨_, _, fz_new e3, ?_⟩
    rw [List.append_nil] at e1
    rw [e2, ← e1]; exact h4
/-- ends in an owned list -/
theorem EvalW.compO {x p elt iter ifs scope pos} (g : V → Option V) (cs : compOk env scope = true) (hd : C.hd = true) (hx : compVar env scope x = true)
    (h : IterE C k env false iter (fun items cond H₁ => items.length ≤ 1000 ∧ (∀ H', Hp.le H₁ H' → cond H') ∧ (∀ v ∈ items, ∀ H', Hp.le H₁ H' → PureStep C k env x elt ifs scope ρ g H' v) ∧ ∀ D, H₁ D = Option.none → Q (.ref D) (H₁.set D (.list (items.filterMap g)))) R ρ H)
    (hs : ∀ x, foldedSetIterable iter env x = pure x := by intro _; rfl) :
    EvalW C k env (.ListComp elt [⟨.Name x p, iter, ifs, 0⟩] scope pos) Q R ρ H := by
  refine EvalW.comp false cs hd (fun e => by cases e) ?_ hs
  intro A a s S P PE hPE hP
  refine h A a s S P PE hPE ?_
  rintro I wr St items cond H₂ s₂ ⟨h1, h2, h3, h4⟩
  refine hP I wr St items cond H₂ s₂ ⟨_, pure_inv g hx h1 h3, fun D hD => ⟨[], rfl, rfl, hD, rfl⟩, ?_, ?_⟩
  · rintro D r acc H ⟨done, _, _, e3, rfl⟩; exact h2 _ (Hp.le_set e3)
  · rintro D acc H' ⟨done, e1, e2, e3, rfl⟩
    refine ⟨_, _, Fz.refl, ?_⟩
    rw [List.append_nil] at e1
    rw [e2, ← e1]; exact h4 D e3
theorem ExecW.assign_compP {y p' x p elt iter ifs scope cpos pos} (g : V → Option V) (hk : env.kindOf y = some .local) (cs : compOk env scope = true) (hd : C.hd = true) (hx : compVar env scope x = true)
    (h : IterE C k env false iter (fun items cond H₁ => items.length ≤ 1000 ∧ (∀ H', Hp.le H₁ H' → cond H') ∧ (∀ v ∈ items, ∀ H', Hp.le H₁ H' → PureStep C k env x elt ifs scope ρ g H' v) ∧ QS .next (ρ.set y (.lst (items.filterMap g))) H₁) (fun v H' => RS v ρ H') ρ H)
    (hsw : swapsWith (.ListComp elt [⟨.Name x p, iter, ifs, 0⟩] scope cpos) (some (.Name y p')) pos.line env = pure true := by rfl)
    (hs : ∀ x, foldedSetIterable iter env x = pure x := by intro _; rfl) :
    ExecW C k env (.Assign [.Name y p'] (.ListComp elt [⟨.Name x p, iter, ifs, 0⟩] scope cpos) pos) QS RS ρ H := by
  refine ExecW.assign_comp false hk cs hd (fun e => by cases e) ?_ hsw hs
  intro A a s S P PE hPE hP
  refine h A a s S P PE hPE ?_
  rintro I wr St items cond H₂ s₂ ⟨h1, h2, h3, h4⟩
  refine hP I wr St items cond H₂ s₂ ⟨_, pure_inv g hx h1 h3, fun D hD => ⟨[], rfl, rfl, hD, rfl⟩, ?_, ?_⟩
  · rintro D r acc H ⟨done, _, _, e3, rfl⟩; exact h2 _ (Hp.le_set e3)
  · rintro D acc H' ⟨done, e1, e2, e3, rfl⟩
    refine ⟨_, _, fz_new e3, ?_⟩
    rw [List.append_nil] at e1
    rw [e2, ← e1]; exact h4
theorem ExecW.assign_compO {y p' x p elt iter ifs scope cpos pos} (g : V → Option V) (hk : env.kindOf y = some .local) (cs : compOk env scope = true) (hd : C.hd = true) (hx : compVar env scope x = true)
    (h : IterE C k env false iter (fun items cond H₁ => items.length ≤ 1000 ∧ (∀ H', Hp.le H₁ H' → cond H') ∧ (∀ v ∈ items, ∀ H', Hp.le H₁ H' → PureStep C k env x elt ifs scope ρ g H' v) ∧ ∀ D, H₁ D = Option.none → QS .next (ρ.set y (.ref D)) (H₁.set D (.list (items.filterMap g)))) (fun v H' => RS v ρ H') ρ H)
    (hsw : swapsWith (.ListComp elt [⟨.Name x p, iter, ifs, 0⟩] scope cpos) (some (.Name y p')) pos.line env = pure true := by rfl)
    (hs : ∀ x, foldedSetIterable iter env x = pure x := by intro _; rfl) :
    ExecW C k env (.Assign [.Name y p'] (.ListComp elt [⟨.Name x p, iter, ifs, 0⟩] scope cpos) pos) QS RS ρ H := by
  refine ExecW.assign_comp false hk cs hd (fun e => by cases e) ?_ hsw hs
  intro A a s S P PE hPE hP
  refine h A a s S P PE hPE ?_
  rintro I wr St items cond H₂ s₂ ⟨h1, h2, h3, h4⟩
  refine hP I wr St items cond H₂ s₂ ⟨_, pure_inv g hx h1 h3, fun D hD => ⟨[], rfl, rfl, hD, rfl⟩, ?_, ?_⟩
  · rintro D r acc H ⟨done, _, _, e3, rfl⟩; exact h2 _ (Hp.le_set e3)
  · rintro D acc H' ⟨done, e1, e2, e3, rfl⟩
    refine ⟨_, _, Fz.refl, ?_⟩
    rw [List.append_nil] at e1
    rw [e2, ← e1]; exact h4 D e3
end Mine

set_option Elab.async false
set_option linter.unusedVariables false
namespace Mine
open PySem PySem.W PyProof.Rows

variable {C : Cx} {k : Nat} {env : Env} {ρ : Rho} {H : Hp} {Q R : V → Hp → Prop} {QB : Bool → Hp → Prop} {QS : Fl → Rho → Hp → Prop} {RS : V → Rho → Hp → Prop}

theorem ite_w {b : Bool} {A B : Prop} (h1 : b = true → A) (h2 : b = false → B) : if b = true then A else B := by
  cases b
  · simpa using h2 rfl
  · simpa using h1 rfl
theorem ite_t {b : Bool} {A B : Prop} (h : b = true) (h1 : A) : if b = true then A else B := by rw [if_pos h]; exact h1
theorem ite_f {b : Bool} {A B : Prop} (h : b = false) (h1 : B) : if b = true then A else B := by rw [if_neg (by rw [h]; decide)]; exact h1

/-- a loop that looks at each item and goes on, or gives an answer -/
def AllQ (ok : Prop) (l0 : List (Str × V)) (H₁ : Hp) (Rt : V → Rho → Hp → Prop) : Fl → Rho → Hp → Prop
  | .next, ρ, H => ok ∧ H = H₁ ∧ Rho.sat l0 ρ
  | .cont, ρ, H => ok ∧ H = H₁ ∧ Rho.sat l0 ρ
  | .brk, _, _ => False
  | .ret u, ρ, H => Rt u ρ H

theorem ExecW.for_all {target iter body pos} (tup : Bool) (hd : C.hd = true) (ht : IsTupleE tup target) (l0 : List (Str × V)) (hl : Rho.sat l0 ρ)
    (h : IterE C k env tup iter (fun items cond H₁ => ∃ p : Nat → Prop, (cond H₁) ∧
      (∀ (i : Nat) v, items[i]? = some v → (∀ j, j < i → p j) → AssignW C k env target v (fun ρ' => ExecsW C k env body (AllQ (p i) l0 H₁ (fun u ρ'' H'' => QS (.ret u) ρ'' H'')) (fun _ _ _ => False) ρ' H₁) (Rho.of l0) H₁) ∧
      ((∀ j, j < items.length → p j) → QS .next (Rho.of l0) H₁)) (fun v H' => RS v ρ H') ρ H)
    (hs : ∀ x, foldedSetIterable iter env x = pure x := by intro _; rfl) : ExecW C k env (.For target iter body [] pos) QS RS ρ H := by
  refine ExecW.for_in tup hd ht ?_ hs
  intro A a s S P PE hPE hP
  refine h A a s S P PE hPE ?_
  rintro I wr St items cond H₁ s₂ ⟨p, hc, step, fin⟩
  refine hP I wr St items cond H₁ s₂ ⟨fun r l H => l = l0 ∧ H = H₁ ∧ ∃ i, r = items.drop i ∧ i ≤ items.length ∧ ∀ j, j < i → p j, ⟨l0, ⟨rfl, rfl, 0, rfl, Nat.zero_le _, fun j hj => absurd hj (Nat.not_lt_zero j)⟩, hl⟩, ?_, ?_, ?_⟩
  · rintro r l H ⟨rfl, rfl, _⟩; exact hc
  · rintro v r l H ⟨rfl, rfl, i, e, hi, hp⟩
    have hv : items[i]? = some v := by
      have := congrArg List.head? e
      simpa [List.head?_drop] using this.symm
    have hlt : i < items.length := (List.getElem?_eq_some_iff.mp hv).1
    have hr : r = items.drop (i + 1) := by
      have := congrArg List.tail e
      simpa [List.tail_drop] using this
    refine (step i v hv hp).conseq fun ρ' hb => hb.conseq fun fl ρ₁ H₁ q => ⟨ρ₁, Rho.le_refl _, ?_⟩
    have nx : ∀ {ρ₁ : Rho} {H₂ : Hp}, p i ∧ H₂ = H ∧ Rho.sat l ρ₁ → ∃ l', (l' = l ∧ H₂ = H ∧ ∃ i, r = items.drop i ∧ i ≤ items.length ∧ ∀ j, j < i → p j) ∧ Rho.sat l' ρ₁ := by
      rintro ρ₁ H₂ ⟨a, rfl, c⟩
      refine ⟨l, ⟨rfl, rfl, i + 1, hr, hlt, fun j hj => ?_⟩, c⟩
      by_cases q : j = i
      · rw [q]; exact a
      · exact hp j (by omega)
    cases fl with
    | next => exact nx q
    | cont => exact nx q
    | brk => exact q.elim
    | ret u => exact q
  · rintro l H ⟨rfl, rfl, i, e, hi, hp⟩
    have hle : items.length ≤ i := by
      have := congrArg List.length e
      simp at this; omega
    exact fin fun j hj => hp j (by omega)

end Mine
namespace Mine
open PySem PySem.W PyProof.Rows
variable {C : Cx} {k : Nat} {env : Env} {ρ : Rho} {H : Hp} {Q R : V → Hp → Prop} {QB : Bool → Hp → Prop} {QS : Fl → Rho → Hp → Prop} {RS : V → Rho → Hp → Prop}
theorem Cont.next {rest} (h : ExecsW C k env rest QS RS ρ H) : Cont C k env rest QS RS .next ρ H := h
theorem Cont.ret {rest v} (h : QS (.ret v) ρ H) : Cont C k env rest QS RS (.ret v) ρ H := h
theorem RetQ.here {v} (h : Q v H) : RetQ Q (.ret v) ρ H := ⟨_, _, Fz.refl, h⟩
end Mine
namespace Mine
open PySem PySem.W PyProof.Rows
variable {C : Cx} {k : Nat} {env : Env} {ρ : Rho} {H : Hp} {Q R : V → Hp → Prop} {QB : Bool → Hp → Prop} {QS : Fl → Rho → Hp → Prop} {RS : V → Rho → Hp → Prop}
theorem drop_cons {items : List V} {v : V} {r : List V} {i : Nat} (e : v :: r = items.drop i) : items[i]? = some v ∧ r = items.drop (i + 1) ∧ i < items.length := by
  have hv : items[i]? = some v := by
    have := congrArg List.head? e
    simpa [List.head?_drop] using this.symm
  refine ⟨hv, ?_, (List.getElem?_eq_some_iff.mp hv).1⟩
  have := congrArg List.tail e
  simpa [List.tail_drop] using this
theorem PureStep.map {x elt scope} {g : V → Option V} {v : V} {ρ' : Rho} (hρ : ρ' = (Rho.hide scope ρ).set x v) (h : ∀ L, EvalW C k (cenvOf env scope L) elt (fun u H₃ => H₃ = H ∧ g v = some u) (fun _ _ => False) ρ' H) : PureStep C k env x elt [] scope ρ g H v :=
  fun L => IfsW.nil ⟨rfl, by simpa using hρ ▸ h L⟩
theorem PureStep.filt {x elt c scope} {g : V → Option V} {v : V} {ρ' : Rho} (hρ : ρ' = (Rho.hide scope ρ).set x v) (h : ∀ L, TestW C k (cenvOf env scope L) c (fun b H₂ => H₂ = H ∧ if b = true then EvalW C k (cenvOf env scope L) elt (fun u H₃ => H₃ = H ∧ g v = some u) (fun _ _ => False) ρ' H else g v = Option.none) (fun _ _ => False) ρ' H) : PureStep C k env x elt [c] scope ρ g H v :=
  fun L => IfsW.one (hρ ▸ h L)
end Mine
namespace Mine
open PySem PySem.W PyProof.Rows
theorem Storable.l {env : Env} {x : Str} (h : env.kindOf x = some .local) : Storable env x := Or.inl h
theorem Storable.c {env : Env} {x : Str} (h : env.kindOf x = some .cell) (h' : (env.cells.lookup x).isSome = true) : Storable env x := Or.inr ⟨h, h'⟩
end Mine
namespace Mine
open PySem PySem.W PyProof.Rows
variable {C : Cx} {k : Nat} {env : Env} {ρ : Rho} {H : Hp} {Q R : V → Hp → Prop} {QB : Bool → Hp → Prop} {QS : Fl → Rho → Hp → Prop} {RS : V → Rho → Hp → Prop} {QL : List V → Hp → Prop}
theorem gE {e} (h : EvalW C k env e Q R ρ H) : EvalW C k env e Q R ρ H := h
theorem gName {x p} (h : EvalW C k env (.Name x p) Q R ρ H) : EvalW C k env (.Name x p) Q R ρ H := h
theorem gConst {x c p} (h : EvalW C k env (.Constant x c p) Q R ρ H) : EvalW C k env (.Constant x c p) Q R ρ H := h
theorem gCall {f a b p} (h : EvalW C k env (.Call f a b p) Q R ρ H) : EvalW C k env (.Call f a b p) Q R ρ H := h
theorem gT {e} (h : TestW C k env e QB R ρ H) : TestW C k env e QB R ρ H := h
theorem gS {e} (h : ExecW C k env e QS RS ρ H) : ExecW C k env e QS RS ρ H := h
theorem gX {e} (h : ExecsW C k env e QS RS ρ H) : ExecsW C k env e QS RS ρ H := h
theorem gA {e} (h : ArgsW C k env e QL R ρ H) : ArgsW C k env e QL R ρ H := h
theorem gB {o v w} (h : BinW C k o v w Q R H) : BinW C k o v w Q R H := h
theorem gC {o v w} (h : CmpW C k o v w Q R H) : CmpW C k o v w Q R H := h
end Mine

set_option Elab.async false
set_option linter.unusedVariables false
set_option maxRecDepth 100000
namespace Mine
open PySem PySem.W PyProof.Rows

section
variable {prog : Program} {w : World} {A : Around} {E : Value → Shared → Prop} {s : Shared}

end

variable {C : Cx} {k : Nat} {env : Env} {ρ : Rho} {H : Hp} {Q R : V → Hp → Prop}
/-- a new owned object, anywhere past the end -/
theorem Sim.allocAt {C : Cx} {H : Hp} {s s' : Shared} {o : O} {d : Addr} (hd : s.heap.objs.size ≤ d) (S : Sim C H s) (hk : ∀ a o, s.heap.get? a = some o → s'.heap.get? a = some o) (hg : s'.gens = s.gens) (ho : s'.os = s.os)
    (hr : ORel C s'.heap (H.set d o) d o) : Sim C (H.set d o) s' ∧ Ext H s.heap (H.set d o) s'.heap := by
  have E : Ext H s.heap (H.set d o) s'.heap := by
    refine ⟨fun a ob e _ => hk a ob e, fun a ob e n => ?_, fun a ob e => ⟨ob, hk a ob e⟩⟩
    unfold Hp.set
    rw [if_neg (fun q => by have := Heap.lt_size e; rw [q] at this; exact absurd this (Nat.not_lt.mpr hd))]; exact n
  refine ⟨⟨fun a o e => hk a o (S.keep a o e), hg.trans S.gens, ho.trans S.os, fun a o' e => ?_, fun a e => ?_⟩, E⟩
  · unfold Hp.set at e
    split at e
    · rename_i q; subst q; cases e; exact hr
    · have r := S.objs a o' e
      obtain ⟨ob', e'⟩ := r.lt
      exact r.same E.v ((hk a ob' e').trans e'.symm)
  · unfold Hp.set at e
    split at e
    · rename_i q; subst q; exact ⟨S.freshB hd, S.freshS hd⟩
    · exact S.new a e
theorem newAtAny_W {s s' : Shared} {l : List V} {xs : Array Value} {d : Addr} (hd : s.heap.objs.size ≤ d) (S : Sim C H s) (hk : ∀ b o, s.heap.get? b = some o → s'.heap.get? b = some o) (hl : s'.heap.PlainList d xs) (r : VRelL s.heap H l xs.toList) (hg : s'.gens = s.gens) (ho : s'.os = s.os)
    (h : ∀ a, H a = Option.none → Q (.ref a) (H.set a (.list l))) : Post C H s.heap VRel Q (.ref d) s' := by
  have E0 : Ext H s.heap (H.set d (.list l)) s'.heap :=
    ⟨fun a ob e _ => hk a ob e, fun a ob e n => by unfold Hp.set; rw [if_neg (fun q => by have := Heap.lt_size e; rw [q] at this; exact absurd this (Nat.not_lt.mpr hd))]; exact n, fun a ob e => ⟨ob, hk a ob e⟩⟩
  obtain ⟨S', E'⟩ := S.allocAt hd hk hg ho (o := .list l) ⟨xs, hl, r.ext E0⟩
  exact ⟨_, _, h _ (S.fresh hd), S', .ref _, E'⟩
end Mine

set_option Elab.async false
set_option linter.unusedVariables false
namespace Mine
open PySem PySem.W PyProof.Rows

variable {C : Cx} {k : Nat} {env : Env} {ρ : Rho} {H : Hp} {Q R : V → Hp → Prop}

def PartV : Option Int → V
  | none => .none
  | some i => .int i
/-- a bound of a slice -/
def PartW (C : Cx) (k : Nat) (env : Env) (e : Option Expr) (Q : Option Int → Hp → Prop) (R : V → Hp → Prop) (ρ : Rho) (H : Hp) : Prop :=
  ∀ A, Lv C k A → ∀ s, SimL C env ρ H s → wpAny C.M A (evalPart e env) (Post C H s.heap (fun h H v x => VRel h H (PartV v) x) Q) (Post C H s.heap VRel R) s
theorem PartW.some {e} {Q : Option Int → Hp → Prop} (h : EvalW C k env e (fun v H' => ∃ i, v = .int i ∧ Q (Option.some i) H') R ρ H) : PartW C k env (Option.some e) Q R ρ H := fun A a s S =>
  wpAny_mono (h A a s S) (fun x s' ⟨v, H', ⟨i, e, q⟩, S', r, E⟩ => ⟨Option.some i, H', q, S', by subst e; exact r, E⟩) fun _ _ p => p
theorem part_is {h : Heap} {o : Option Int} {x : Value} (r : VRel h H (PartV o) x) : IsPart x o := by
  cases o <;> cases r
  · exact .none
  · exact .int _ _

def pickV {α : Type} (l : List α) (lo hi : Option Int) : List α := (l.drop (lo.elim 0 (clipAt l.length))).take (hi.elim l.length (clipAt l.length) - lo.elim 0 (clipAt l.length))
theorem pickV_map {α β : Type} (f : α → β) (l : List α) (lo hi) : pickV (l.map f) lo hi = (pickV l lo hi).map f := by
  simp [pickV, List.map_take, List.map_drop]
theorem EvalW.sliceL {value lower upper p pos} (h : EvalW C k env value (fun v H₁ => PartW C k env lower (fun lo H₂ => PartW C k env upper (fun hi H₃ => ∃ l, lview H₃ v = Option.some l ∧ l.length ≤ 100000 ∧
      ∀ a, H₃ a = Option.none → Q (.ref a) (H₃.set a (.list (pickV l lo hi)))) R ρ H₂) R ρ H₁) R ρ H)
    (ht : ∀ o r, letTemporaryGo value o r = pure () := by intro _ _; rfl) : EvalW C k env (.Subscript value (.Slice lower upper Option.none p) pos) Q R ρ H := fun A a s S => by
  refine wpAny_Subscript_Slice list_getitem_lookup (wp_go (h A a s S) fun x v H₁ s₁ h₁ S₁ r₁ E₁ => ?_) ht
  refine wpAny_Slice ?_
  refine wp_go (h₁ A a s₁ (S.ext S₁ E₁)) (fun y lo H₂ s₂ h₂ S₂ r₂ E₂ => ?_) fun _ _ p => p.after E₁
  have E12 := E₁.trans E₂
  refine wp_go (h₂ A a s₂ (S.ext S₂ E12)) (fun z hi H₃ s₃ h₃ S₃ r₃ E₃ => ?_) fun _ _ p => p.after E12
  obtain ⟨l, hl, hn, hQ⟩ := h₃
  obtain ⟨ad, xs, rfl, hL, rl⟩ := lview_list hl S₃ (r₁.ext (E₂.trans E₃))
  have hz : xs.size = l.length := by have := rl.length; simpa using this
  refine wpAny_pure ?_
  have hk : ∀ b o, s₃.heap.get? b = Option.some o → (s₃.heap.push { cls := .type "slice", data := .fields #[y, z, .none] }).get? b = Option.some o := fun b o e => Heap.get?_push_of_some _ e
  have hL' := hL.push { cls := .type "slice", data := .fields #[y, z, .none] }
  refine ⟨Heap.IsList.typeIs (s := { s₃ with heap := s₃.heap.push { cls := .type "slice", data := .fields #[y, z, .none] } }) hL', ?_⟩
  refine wpAny_getItem_list_slice (s := { s₃ with heap := s₃.heap.push { cls := .type "slice", data := .fields #[y, z, .none] } }) hL' (Heap.IsSliceOf.new ..) (part_is (r₂.ext E₃)) (part_is r₃) .none (by simp) ?_ (by rw [hz]; exact Nat.le_trans hn (by decide))
  have fin := newAtAny_W (Q := Q) (H := H₃) (s := s₃) (s' := { s₃ with heap := (s₃.heap.push { cls := .type "slice", data := .fields #[y, z, .none] }).push { cls := .type "list", data := .seq (slicePick xs lo hi Option.none) } })
    (l := pickV l lo hi) (xs := slicePick xs lo hi Option.none) (d := (s₃.heap.push { cls := .type "slice", data := .fields #[y, z, .none] }).objs.size) (by rw [Heap.size_push]; omega) S₃
    (fun b o e => Heap.get?_push_of_some _ (hk b o e)) ⟨_, Heap.get?_push_size _ rfl⟩ (by
      rw [slicePick_plain]
      show VRelL _ _ _ ((xs.toList.drop _).take _)
      rw [hz]
      exact (rl.drop _).take _) rfl rfl hQ
  exact fin.after (E12.trans E₃)
end Mine

set_option Elab.async false
set_option linter.unusedVariables false
namespace Mine
open PySem PySem.W PyProof.Rows

variable {C : Cx} {k : Nat} {env : Env} {ρ : Rho} {H : Hp} {Q R : V → Hp → Prop}
end Mine

set_option Elab.async false
set_option linter.unusedVariables false
namespace Mine
open PySem

abbrev Wt := Option (Bool × List Nat)
def nv (n : Nat) : V := .int n
def ov : Option Nat → V
  | none => .none
  | some n => .int n
def cellV (ns : List Int) (i : Int) : Int := ns.getD i.toNat 0
/- ints in lists -/
theorem datL_nv (l : List Nat) : datL (l.map nv) = (l.map fun (n : Nat) => (n : Int)).map PyData.int := by
  induction l with
  | nil => rfl
  | cons x l ih => simp only [List.map_cons, datL, ih, nv, V.dat]
theorem pureL_nv (l : List Nat) : pureL (l.map nv) = true := by
  induction l with
  | nil => rfl
  | cons x l ih => simp only [List.map_cons, pureL, ih, nv, V.pure]; rfl
end Mine
namespace Mine
open PySem PySem.W PyProof.Rows
variable {C : Cx} {k : Nat} {env : Env} {ρ : Rho} {H : Hp} {Q R : V → Hp → Prop}

theorem okD_ints (l : List Int) : okD (.list (l.map .int)) = true := by
  have a : PyData.canLayAll0 (l.map .int) = true := by
    induction l with
    | nil => rfl
    | cons x l ih => simp only [List.map_cons, PyData.canLayAll0, PyData.canLay0, ih]; rfl
  have b : PyData.depthAll (l.map .int) ≤ 1 := by
    induction l with
    | nil => simp [PyData.depthAll]
    | cons x l ih =>
      simp only [List.map_cons, PyData.canLayAll0, PyData.canLay0, Bool.true_and] at a
      have := ih a
      simp only [List.map_cons, PyData.depthAll, PyData.depth]; omega
  unfold okD SeqAt.shaped
  simp only [PyData.canLay0, PyData.depth, a]
  simp; omega
theorem eqvAll_ints : ∀ l l' : List Int, PyData.eqvAll (l.map .int) (l'.map .int) = (l == l')
  | [], [] => rfl
  | [], _ :: _ => rfl
  | _ :: _, [] => rfl
  | x :: l, y :: l' => by
    simp only [List.map_cons, PyData.eqvAll, PyData.eqv, eqvAll_ints l l']; rfl
theorem see_of {v : V} {l : List V} (h : lview H v = some l) : see H v = .lst l := by
  cases v with
  | lst l' => cases h; rfl
  | ref a =>
    simp only [lview, see] at h ⊢
    split at h
    · rename_i e; cases h; first | rfl | rw [e]
    · cases h
  | _ => cases h
theorem ints_eq (l l' : List Nat) : ((l.map fun (n : Nat) => (n : Int)) == (l'.map fun (n : Nat) => (n : Int))) = (l == l') := by
  rw [Bool.eq_iff_iff, beq_iff_eq, beq_iff_eq]
  constructor
  · intro h
    exact (List.map_inj_right (fun x y e => Int.ofNat.inj e)).mp h
  · rintro rfl; rfl
theorem eqv_nv (l l' : List Nat) : PyData.eqv (.list (datL (l.map nv))) (.list (datL (l'.map nv))) = (l == l') := by
  rw [datL_nv, datL_nv, PyData.eqv, eqvAll_ints, ints_eq]
theorem CmpW.neN {v w : V} {l l' : List Nat} (hv : lview H v = some (l.map nv)) (hw : lview H w = some (l'.map nv)) (h : Q (.bool (l != l')) H) : CmpW C k .NotEq v w Q R H := by
  have e1 := see_of hv
  have e2 := see_of hw
  refine CmpW.ne ?_ ?_ ?_ ?_ ?_ <;> simp only [e1, e2, V.pure, V.dat, pureL_nv]
  · rw [datL_nv]; exact okD_ints _
  · rw [datL_nv]; exact okD_ints _
  · rw [eqv_nv]; exact h
theorem countIn_nv (i : Int) (h0 : 0 ≤ i) (l : List Nat) : decide (PySem.Spec.countIn (.int i) (datL (l.map nv)) ≠ 0) = decide (i.toNat ∈ l) := by
  rw [datL_nv, countIn_ints_count]
  rw [decide_eq_decide]
  have : (List.count i (l.map fun (n : Nat) => (n : Int)) ≠ 0) ↔ i ∈ (l.map fun (n : Nat) => (n : Int)) := by
    rw [← List.count_pos_iff]; omega
  have h2 : i ∈ (l.map fun (n : Nat) => (n : Int)) ↔ i.toNat ∈ l := by
    rw [List.mem_map]
    constructor
    · rintro ⟨x, hx, rfl⟩; simpa using hx
    · intro h; exact ⟨_, h, by omega⟩
  rw [← h2, ← this]
  omega
theorem noMix_nv (i : Int) (l : List Nat) : ∀ y ∈ datL (l.map nv), SeqAt.noMix y (.int i) = true := by
  rw [datL_nv]
  intro y hy
  simp at hy
  obtain ⟨a, _, rfl⟩ := hy
  rfl
theorem CmpW.notInN {w : V} {i : Int} {l : List Nat} (hw : lview H w = some (l.map nv)) (h0 : 0 ≤ i) (h : Q (.bool (!decide (i.toNat ∈ l))) H) : CmpW C k .NotIn (.int i) w Q R H := by
  refine CmpW.notInList hw (pureL_nv l) rfl (by rw [datL_nv]; exact okD_ints _) rfl (noMix_nv i l) ?_
  rw [show (see H (.int i)).dat = PyData.int i from rfl, countIn_nv i h0]; exact h
theorem lview_nv0 : lview H (.lst []) = some (([] : List Nat).map nv) := rfl
end Mine
namespace Mine
end Mine
namespace Mine
end Mine
namespace Mine
def gN (g : Nat → Option V) : V → Option V
  | .int i => g i.toNat
  | _ => none
theorem gN_nv (g : Nat → Option V) (n : Nat) : gN g (.int ((n : Nat) : Int)) = g n := by simp [gN]
theorem fm_gN (g : Nat → Option V) (l : List Nat) : (l.map nv).filterMap (gN g) = l.filterMap g := by
  rw [List.filterMap_map]
  congr 1
theorem rangeV_nv (n : Nat) : rangeV n = (List.range n).map nv := rfl
theorem fm_filter (p : Nat → Bool) (l : List Nat) : l.filterMap (fun n => if p n = true then some (nv n) else none) = (l.filter p).map nv := by
  induction l with
  | nil => rfl
  | cons x l ih =>
    rw [List.filterMap_cons, List.filter_cons]
    by_cases h : p x = true
    · simp only [h, if_true]; rw [ih]; rfl
    · simp only [h]; exact ih
theorem fm_map (f : Nat → V) (l : List Nat) : l.filterMap (fun n => some (f n)) = l.map f := by
  rw [List.filterMap_eq_map']
end Mine

set_option linter.unusedVariables false
namespace Mine

/- what the rounds say -/
end Mine

set_option linter.unusedVariables false
namespace Mine
open PySem PySem.W PyProof.Rows
variable {C : Cx} {k : Nat} {env : Env} {ρ : Rho} {H : Hp} {Q R : V → Hp → Prop} {QB : Bool → Hp → Prop} {QS : Fl → Rho → Hp → Prop} {RS : V → Rho → Hp → Prop}
/-- one statement, and what is known behind it -/
def SeqQ (X : List (Str × V) → Hp → Prop) (QS : Fl → Rho → Hp → Prop) : Fl → Rho → Hp → Prop
  | .next, ρ, H => ∃ l, X l H ∧ Rho.sat l ρ
  | .cont, ρ, H => QS .cont ρ H
  | .brk, ρ, H => QS .brk ρ H
  | .ret u, ρ, H => QS (.ret u) ρ H
theorem ExecsW.seq {st rest} (X : List (Str × V) → Hp → Prop) (h : ExecW C k env st (SeqQ X QS) RS ρ H) (h2 : ∀ l H', X l H' → ExecsW C k env rest QS RS (Rho.of l) H') : ExecsW C k env (st :: rest) QS RS ρ H := by
  refine ExecsW.cons ?_
  intro A a s S
  refine wpAny_mono (h A a s S) ?_ fun _ _ p => p
  rintro f s' ⟨fl, ρ', H', q, r, S', E⟩
  cases fl with
  | next => obtain ⟨l, x, hs⟩ := q; exact ⟨.next, Rho.of l, H', h2 l H' x, r, S'.weaken hs.le, E⟩
  | cont => exact ⟨.cont, ρ', H', q, r, S', E⟩
  | brk => exact ⟨.brk, ρ', H', q, r, S', E⟩
  | ret u => exact ⟨.ret u, ρ', H', q, r, S', E⟩
end Mine

set_option linter.unusedVariables false
namespace Mine
/- the laws' ways to make waits, with their numbers left open -/
end Mine

set_option linter.unusedVariables false
namespace Mine
open PySem PySem.W PyProof.Rows
variable {C : Cx} {k : Nat} {env : Env} {ρ : Rho} {H : Hp} {Q R : V → Hp → Prop}

def S_cell : SpecT := fun args Q R H => ∃ (ns : List Int) (i : Int), args = [.lst (ns.map .int), .int i] ∧ 0 ≤ i ∧ ns.length ≤ 100 ∧ Q (.int (cellV ns i)) H
/- waits as data -/
theorem okD_parts {d : PyData} (h : okD d = true) : d.canLay0 = true ∧ d.depth ≤ 64 := by
  unfold okD SeqAt.shaped at h; simpa using h
theorem okD_of {d : PyData} (h1 : d.canLay0 = true) (h2 : d.depth ≤ 64) : okD d = true := by
  unfold okD SeqAt.shaped; simp [h1, h2]
mutual
theorem eqv_refl : ∀ d : PyData, d.canLay0 = true → PyData.eqv d d = true
  | .none, _ => rfl
  | .bool b, _ => by simp [PyData.eqv]
  | .int b, _ => by simp [PyData.eqv]
  | .str b, _ => by simp [PyData.eqv]
  | .list xs, h => by simp only [PyData.canLay0] at h; simp only [PyData.eqv]; exact eqvAll_refl xs h
  | .tuple xs, h => by simp only [PyData.canLay0] at h; simp only [PyData.eqv]; exact eqvAll_refl xs h
  | .dict _, h => by simp [PyData.canLay0] at h
theorem eqvAll_refl : ∀ d : List PyData, PyData.canLayAll0 d = true → PyData.eqvAll d d = true
  | [], _ => rfl
  | x :: xs, h => by
    simp only [PyData.canLayAll0, Bool.and_eq_true] at h
    simp only [PyData.eqvAll, eqv_refl x h.1, eqvAll_refl xs h.2]; rfl
end
theorem CmpW.neB {a b : Bool} (h : Q (.bool (!(a == b))) H) : CmpW C k .NotEq (.bool a) (.bool b) Q R H := CmpW.ne rfl rfl rfl rfl h
end Mine

set_option linter.unusedVariables false
namespace Mine

/- rounds, exactly -/
end Mine

set_option linter.unusedVariables false
namespace Mine
end Mine

set_option linter.unusedVariables false
namespace Mine
open PySem PySem.W PyProof.Rows
variable {C : Cx} {k : Nat} {env : Env} {ρ : Rho} {H : Hp} {Q R : V → Hp → Prop}

/-- list(xs) that nobody will change -/
theorem CallW.listCopyF {v : V} {l : List V} (hl : lview H v = some l) (hn : l.length ≤ 100000) (h : Q (.lst l) H) : CallW C k (.type "list") [v] Q R H := fun A a s xs S r => by
  refine wpAny_mono (CallW.listCopy (C := C) (k := k) (Q := fun v H' => ∃ a, v = .ref a ∧ H a = Option.none ∧ H' = H.set a (.list l)) (R := R) hl hn (fun a ha => ⟨a, rfl, ha, rfl⟩) A a s xs S r) ?_ fun _ _ p => p
  rintro x s' ⟨v', H', ⟨b, rfl, hb, rfl⟩, S', r', E'⟩
  obtain ⟨S3, r3⟩ := (fz_new (acc := l) hb).2 C s' x S' r'
  exact ⟨.lst l, H, h, S3, r3, ⟨E'.keep, fun c o e n => n, E'.live⟩⟩

/- lists of rounds -/
/- a whole turn of all hands -/
end Mine

set_option Elab.async false
set_option linter.unusedVariables false
namespace Mine
open PySem PySem.W PyProof.Rows

variable {C : Cx} {k : Nat} {K : Frag} {env : Env} {ρ : Rho} {H : Hp} {Q R : V → Hp → Prop} {QS : Fl → Rho → Hp → Prop} {RS : V → Rho → Hp → Prop}

/-- values that are handed out as they are -/
def V.plain : V → Bool
  | .con _ => false
  | _ => true
theorem VRel.handed {h : Heap} {H : Hp} {v : V} {x : Value} (r : VRel h H v x) (hv : v.plain = true) : handedIn x = true := by
  cases r <;> first | rfl | cases hv

theorem noRefKey {es : Array DictEntry} (hk : StrKeys es) : es.any (·.refKey) = false := by
  rw [Array.any_eq_false']; intro e he; obtain ⟨n, t, h⟩ := hk e he; simp [DictEntry.refKey, h]
theorem lookIn_ns {o : Obj} {es : Array DictEntry} {ep : Nat} {name : Str} (hd : o.data = .dict es ep) (hk : StrKeys es) : lookIn name o = some (nsFind es name) := by
  have h2 := noRefKey hk
  rw [← Array.any_toList] at h2
  unfold lookIn nsFind findBy
  rw [hd]
  dsimp only
  rw [← Array.find?_toList]
  cases hf : es.toList.find? (fun e => e.key.isStr name) with
  | some e => rfl
  | none => simp [h2]

theorem putName_ns {o : Obj} {es : Array DictEntry} {ep : Nat} (hd : o.data = .dict es ep) (hk : StrKeys es) (name : Str) (hash : Int) (t : Tok) (v : Value) :
    ∃ es' ep', (Obj.putName name hash (.str name t) v o).data = .dict es' ep' ∧ StrKeys es' ∧ (∀ x, nsFind es' x = if x = name then some v else nsFind es x) ∧ es'.size ≤ es.size + 1 ∧ ((nsFind es name).isSome = true → es'.size = es.size) := by
  obtain ⟨c, d, dt, sl⟩ := o
  simp only at hd
  subst hd
  cases hi : es.findIdx? (·.key.isStr name) with
  | some i =>
    refine ⟨_, ep, by simp only [Obj.putName_eq, Obj.putNameByArray, hi], hk.modify _ _, fun x => findBy_modify (fun n v => v.isStr n) Value.isStr_inj es name x v i hi, by simp, fun _ => by simp⟩
  | none =>
    refine ⟨_, ep + 1, by simp only [Obj.putName_eq, Obj.putNameByArray, hi]; rfl, hk.push _ _ _ _, fun x => findBy_push (fun n v => v.isStr n) es name x _ _ v (fun y => by
      show (name == y) = decide (y = name)
      by_cases h : y = name
      · subst h; simp
      · have : ¬ name = y := fun e => h e.symm
        simp [h, this]) hi, by simp, fun q => ?_⟩
    unfold nsFind findBy at q
    have : es.find? (fun e => e.key.isStr name) = Option.none := by
      rw [Array.find?_eq_none]; intro e he
      simpa using (Array.findIdx?_eq_none_iff.mp hi) e he
    rw [this] at q; cases q

structure ClsOk (K : Frag) (c : Addr) : Prop where
  get : findIn K (.ref c) "__getattribute__" = some (some (.builtin "object.__getattribute__"))
  set : findIn K (.ref c) "__setattr__" = some (some (.builtin "object.__setattr__"))
  hook : findIn K (.ref c) "__getattr__" = some none
  over : plainOver K c = true
  dict : (clsIn K c).any (·.hasDict) = true

theorem PCx.at (P : PCx C K) {s : Shared} (S : Sim C H s) : K.In s.heap := fun b o e => S.keep b o (P.X b o e)

theorem Sim.instAt {s : Shared} {a c d : Addr} {m : Str → Option V} {n : Nat} (S : Sim C H s) (ha : H a = some (.inst c d)) (hd : H d = some (.ns m n)) :
    ∃ od es ep, InstAt s.heap a { cls := .ref c, dict := some d, data := .plain } c (some od) ∧ s.heap.get? d = some od ∧ od.data = .dict es ep ∧ StrKeys es ∧ es.size ≤ n ∧ ∀ k, OptRel s.heap H (m k) (nsFind es k) := by
  have ra := S.objs _ _ ha
  obtain ⟨od, es, ep, e, hdat, hk, hz, hr⟩ := S.objs _ _ hd
  exact ⟨od, es, ep, ⟨ra, rfl, rfl, e⟩, e, hdat, hk, hz, hr⟩

def AttrW (C : Cx) (k : Nat) (v : V) (name : Str) (Q R : V → Hp → Prop) (H : Hp) : Prop :=
  ∀ A, Lv C k A → ∀ s x, Sim C H s → VRel s.heap H v x → wpAny C.M A (getAttr x name true) (Post C H s.heap VRel Q) (Post C H s.heap VRel R) s
theorem EvalW.attr {o name pos} (h : EvalW C k env o (fun v H₁ => AttrW C k v name Q R H₁) R ρ H)
    (he : eval (.Attribute o name pos) env = (do
      let x ← eval o env
      standAt pos.atName
      let r ← holding [x] (getAttr x name true)
      letTemporaryGo o x r
      pure r) := by with_unfolding_all rfl) : EvalW C k env (.Attribute o name pos) Q R ρ H := fun A a s S =>
  Attribute_any_ (wp_go (h A a s S) fun x v H₁ s₁ h₁ S₁ r₁ E₁ => wp_fin E₁ (h₁ A a s₁ x S₁ r₁)) he

theorem OptRel.get {h : Heap} {H : Hp} {v : V} {o : Option Value} (r : OptRel h H (some v) o) : ∃ u, o = some u ∧ VRel h H v u := by
  cases o with
  | none => exact r.elim
  | some u => exact ⟨u, rfl, r⟩
theorem OptRel.no {h : Heap} {H : Hp} {o : Option Value} (r : OptRel h H Option.none o) : o = Option.none := by
  cases o with
  | none => rfl
  | some u => exact r.elim

theorem AttrW.inst (P : PCx C K) {a c d : Addr} {m : Str → Option V} {n : Nat} {name : Str} {v : V} (hc : ClsOk K c) (ha : H a = some (.inst c d)) (hd : H d = some (.ns m n)) (hm : m name = some v)
    (hx : findIn K (.ref c) name = some none) (hv : v.plain = true) (h : Q v H) : AttrW C k (.ref a) name Q R H := fun A lv s x S r => by
  cases r
  obtain ⟨od, es, ep, I, e, hdat, hk, hz, hr⟩ := S.instAt ha hd
  have hu := hr name
  rw [hm] at hu
  obtain ⟨u, hf, hu⟩ := hu.get
  obtain ⟨cd, hcd, hh⟩ := any_some hc.dict
  have hfo : findObj K c (some od) name = some (.value u) := by
    unfold findObj
    rw [hcd, hx]
    simp only [Option.bind_some]
    unfold W.ownOf
    rw [hh]
    simp [lookIn_ns hdat hk, hf]
  exact get_value (P.at S) I hc.get hfo (hu.handed hv) (Post.here h (S.toks _) hu rfl)

def SetAttrW (C : Cx) (k : Nat) (v : V) (name : Str) (u : V) (Q : Hp → Prop) (R : V → Hp → Prop) (H : Hp) : Prop :=
  ∀ A, Lv C k A → ∀ s x z, Sim C H s → VRel s.heap H v x → VRel s.heap H u z → wpAny C.M A (setAttr x name z) (Post C H s.heap (fun _ _ (_ _ : Unit) => True) (fun _ H' => Q H')) (Post C H s.heap VRel R) s
theorem ExecW.assign_attr {o attr p' e p} (h : EvalW C k env e (fun u H₁ => EvalW C k env o (fun v H₂ => SetAttrW C k v attr u (fun H₃ => QS .next ρ H₃) (fun w H' => RS w ρ H') H₂) (fun w H' => RS w ρ H') ρ H₁) (fun w H' => RS w ρ H') ρ H)
    (hs : swapsWith e (some (.Attribute o attr p')) p.line env = pure false := by rfl) : ExecW C k env (.Assign [.Attribute o attr p'] e p) QS RS ρ H := fun A a s S => by
  refine plainObj_wpAny_Assign_Attribute (wp_go (h A a s S) (fun z u H₁ s₁ h₁ S₁ r₁ E₁ => ?_) fun _ _ p => p.toX S) hs
  refine wp_go (h₁ A a s₁ (S.ext S₁ E₁)) (fun x v H₂ s₂ h₂ S₂ r₂ E₂ => ?_) fun _ _ p => (p.after E₁).toX S
  refine wpAny_mono (h₂ A a s₂ x z S₂ r₂ (r₁.ext E₂)) ?_ fun _ _ p => (p.after (E₁.trans E₂)).toX S
  rintro _ s₄ ⟨_, H₄, q, S₄, _, E₄⟩
  have E := (E₁.trans E₂).trans E₄
  exact ⟨.next, ρ, H₄, q, trivial, S.ext S₄ E, E.toF⟩

theorem SetAttrW.gen (P : PCx C K) {a c d : Addr} {m : Str → Option V} {n n' : Nat} {name : Str} {u : V} {QH : Hp → Prop} (hc : ClsOk K c) (ha : H a = some (.inst c d)) (hd : H d = some (.ns m n))
    (hx : findIn K (.ref c) name = some none) (hn : n ≤ 900) (hn' : n + 1 ≤ n' ∨ (n ≤ n' ∧ (m name).isSome = true)) (h : QH (H.set d (.ns (Rho.set m name u) n'))) : SetAttrW C k (.ref a) name u QH R H := fun A lv s x z S r1 r2 => by
  cases r1
  obtain ⟨od, es, ep, I, e, hdat, hk, hz, hr⟩ := S.instAt ha hd
  have X := P.at S
  refine set_plain X I hc.set ?_
  refine osa_open (s := { s with toks := s.toks + 1 }) X I hc.over (r := none) (by unfold takerIn; rw [hx]; rfl) fun b => ?_
  obtain ⟨cd, hcd, hh⟩ := any_some hc.dict
  obtain ⟨hx1, hcl, hn1, -⟩ := I
  refine wpAny_bind (wpAny_pure (wpAny_bind (wpAny_bind (wpAny_loadPart hx1 (wpAny_bind (looks_clsIn X hcd _ _ _ _ (fun _ _ e => e) ?_))))))
  rw [hh]
  refine wpAny_pure (a := some d) (wpAny_bind (wpAny_pure (wpAny_bind ?_)))
  unfold nsSet
  refine wpAny_bind (wpAny_bind (wpAny_askSetting (wpAny_pure (wpAny_bind (wpAny_mkText (wpAny_bind (wpAny_loadPart e ?_)))))))
  rw [hdat]
  dsimp only
  rw [aRefKeyMayBeTheName_at, noRefKey hk, Bool.and_false]
  obtain ⟨es', ep', g1, g2, g3, g4, g5⟩ := putName_ns hdat hk name (PyData.keyHash C.w.params name) (s.toks + 1) z
  have e' : (s.heap.update d (Obj.putName name (PyData.keyHash C.w.params name) (.str name (s.toks + 1)) z)).get? d = some (Obj.putName name (PyData.keyHash C.w.params name) (.str name (s.toks + 1)) z od) := Heap.get?_update_self _ e (Obj.isFreed_of_dict g1)
  have hsb := Heap.SameBut.update s.heap d (Obj.putName name (PyData.keyHash C.w.params name) (.str name (s.toks + 1)) z)
  have hsz : es'.size ≤ n' := by
    rcases hn' with q | ⟨q1, q2⟩
    · omega
    · rw [g5 ?_]; · omega
      obtain ⟨w, hw⟩ := Option.isSome_iff_exists.mp q2
      have := hr name; rw [hw] at this
      obtain ⟨y, hy, _⟩ := this.get
      rw [hy]; rfl
  refine wpAny_updatePart e ?_
  refine wpAny_bind (wpAny_lookBehind e' (by rw [g1]; exact pastItsLine_dict (by rw [sizeLine_eq]; omega)) ?_)
  refine wpAny_pure ?_
  have hne : ∀ b, H b = none → b ≠ d := fun b e' q => by rw [q, hd] at e'; cases e'
  have E0 : ∀ o', ExtV H s.heap (H.set d o') (s.heap.update d (Obj.putName name (PyData.keyHash C.w.params name) (.str name (s.toks + 1)) z)) := fun o' b ob _ _ e _ n => ⟨(hsb.2 b (hne b n)).trans e, by unfold Hp.set; rw [if_neg (hne b n)]; exact n⟩
  obtain ⟨S', E'⟩ := S.update (s' := { s with heap := s.heap.update d (Obj.putName name (PyData.keyHash C.w.params name) (.str name (s.toks + 1)) z), toks := s.toks + 1 + 1 }) (o' := .ns (Rho.set m name u) n') hd hsb ⟨_, e'⟩ rfl rfl
    ⟨_, es', ep', e', g1, g2, hsz, fun x => by
      rw [g3]
      unfold Rho.set
      by_cases q : x = name
      · simp only [q, if_true]; exact r2.extV (E0 _)
      · simp only [q, if_false]; exact (hr x).extV (E0 _)⟩
  exact ⟨(), _, h, S', trivial, E'⟩

/-- lists of names: a store replaces in place -/
def putL : List (Str × V) → Str → V → List (Str × V)
  | [], x, v => [(x, v)]
  | (y, w) :: l, x, v => if y = x then (y, v) :: l else (y, w) :: putL l x v
theorem of_putL : ∀ (l : List (Str × V)) (x : Str) (v : V), Rho.set (Rho.of l) x v = Rho.of (putL l x v)
  | [], x, v => rfl
  | (y, w) :: l, x, v => by
    unfold putL
    split
    · rename_i q; subst q
      funext z; simp only [Rho.of, Rho.set]; split <;> rfl
    · rename_i q
      show Rho.set (Rho.set (Rho.of l) y w) x v = Rho.set (Rho.of (putL l x v)) y w
      rw [← of_putL l x v]
      funext z; simp only [Rho.set]
      by_cases h1 : z = x
      · subst h1; have : ¬ z = y := fun e => q e.symm
        simp [this]
      · simp [h1]
theorem SetAttrW.inst (P : PCx C K) {a c d : Addr} {l : List (Str × V)} {n : Nat} {name : Str} {u : V} {QH : Hp → Prop} (hc : ClsOk K c) (ha : H a = some (.inst c d)) (hd : H d = some (.ns (Rho.of l) n))
    (hx : findIn K (.ref c) name = some none) (hn : n ≤ 900) (hl : (Rho.of l name).isSome = true) (h : QH (H.set d (.ns (Rho.of (putL l name u)) n))) : SetAttrW C k (.ref a) name u QH R H :=
  SetAttrW.gen P (n' := n) hc ha hd hx hn (.inr ⟨Nat.le_refl _, hl⟩) (by rw [of_putL]; exact h)
theorem SetAttrW.new (P : PCx C K) {a c d : Addr} {l : List (Str × V)} {n : Nat} {name : Str} {u : V} {QH : Hp → Prop} (hc : ClsOk K c) (ha : H a = some (.inst c d)) (hd : H d = some (.ns (Rho.of l) n))
    (hx : findIn K (.ref c) name = some none) (hn : n ≤ 900) (h : QH (H.set d (.ns (Rho.of (putL l name u)) (n + 1)))) : SetAttrW C k (.ref a) name u QH R H :=
  SetAttrW.gen P (n' := n + 1) hc ha hd hx hn (.inl (Nat.le_refl _)) (by rw [of_putL]; exact h)

/-- own methods -/
theorem MethIs.own (P : PCx C K) {a c d f : Addr} {m : Str → Option V} {n : Nat} {name : Str} (hc : ClsOk K c) (ha : H a = some (.inst c d)) (hd : H d = some (.ns m n)) (hm : m name = none)
    (hf : findIn K (.ref c) name = some (some (.ref f))) (ht : typeIn K (.ref f) = some (.type "function")) : MethIs C H (.ref a) name (.ref f) := by
  intro A s x pl Q E S r hq
  cases r
  obtain ⟨od, es, ep, I, e, hdat, hk, hz, hr⟩ := S.instAt ha hd
  have hu := hr name
  rw [hm] at hu
  exact method_fn (P.at S) I hc.get hc.hook hf ht (by unfold shadowIn; simp [lookIn_ns hdat hk, hu.no]) hq

/-- a class is called -/
theorem Plainly.cls (P : PCx C K) {c : Addr} (hk : keepIn K (.ref c) = true) : Plainly C (.ref c) := fun A E Q s first pos args hp h =>
  callWith_of (P := fun h => K.In h) (by rw [hp]; rfl) (keeps_K hk) (evalArgs_any hp (wpAny_mono h (fun vs s₁ x => ⟨fun b o e => x.1 b o (P.X b o e), x.2⟩) fun _ _ x => x))

theorem under_typeCall (A : Around) (c : Addr) (rest : List Value) (kw : List (Str × Value)) : (Code.builtin "type.__call__" ⟨.ref c :: rest, kw⟩).weight = 1 ∧ (Code.builtin "type.__call__" ⟨.ref c :: rest, kw⟩).cUnits = 1 := ⟨by with_unfolding_all rfl, by with_unfolding_all rfl⟩
theorem CallW.make (P : PCx C K) {c fI : Addr} {Sp : SpecT} {args : List V} (hm : makesIn K c = true) (hi : findIn K (.ref c) "__init__" = some (some (.ref fI))) (hf : typeIn K (.ref fI) = some (.type "function")) (init : FnOK C k (.ref fI) Sp)
    (h : ∀ x d, H x = none → H d = none → x ≠ d → Sp (.ref x :: args) (fun v H' => v = .none ∧ Q (.ref x) H') R ((H.set d (.ns (Rho.of []) 0)).set x (.inst c d))) : CallW C (k + 1) (.ref c) args Q R H := fun A lv s xs S r => by
  have X := P.at S
  obtain ⟨hh, g, dr, t, os⟩ := s
  refine wpAny_call ?_
  refine make_core (makes_of X hm) (looks_findIn X hi) (fun self => bind_fn X self hf) (.inl rfl) ?_
  have k1 : ∀ b o, hh.get? b = some o → (hh.push emptyDict).get? b = some o := fun b o e => Heap.get?_push_of_some _ e
  have k2 : ∀ b o, (hh.push emptyDict).get? b = some o → ((hh.push emptyDict).push (instObj c hh.objs.size)).get? b = some o := fun b o e => Heap.get?_push_of_some _ e
  obtain ⟨S1, E1⟩ := S.alloc (s' := ⟨hh.push emptyDict, g, dr, t, os⟩) (o := .ns (Rho.of []) 0) k1 rfl rfl
    ⟨emptyDict, #[], 0, Heap.get?_push_size _ rfl, rfl, fun _ he => by simp at he, Nat.le_refl _, fun _ => trivial⟩
  have hz : (hh.push emptyDict).objs.size = hh.objs.size + 1 := Heap.size_push ..
  obtain ⟨S2, E2⟩ := S1.alloc (s' := ⟨(hh.push emptyDict).push (instObj c hh.objs.size), g, dr, t, os⟩) (o := .inst c hh.objs.size) k2 rfl rfl (Heap.get?_push_size _ rfl)
  have f1 : H hh.objs.size = none := S.fresh (Nat.le_refl _)
  have f2 : H (hh.objs.size + 1) = none := S.fresh (Nat.le_succ _)
  dsimp only at S1 E1 S2 E2
  rw [hz] at S2 E2
  obtain ⟨w1, w2⟩ := under_typeCall A c xs []
  have lv' : Lv C k (A.under (.builtin "type.__call__" ⟨.ref c :: xs, []⟩)) :=
    ⟨fun e => lv.handled e, by have := lv.depth; show A.depth + Code.weight _ + 2 * k + 100 < _; rw [w1]; omega, by have := lv.units; show A.units + Code.cUnits _ + 40 * k + 100 < _; rw [w2]; omega⟩
  refine codeAny_mono (init _ lv' _ _ (.ref (hh.objs.size + 1) :: args) (.ref (hh.objs.size + 1) :: xs) _ _ S2 (.cons (.ref _) (r.ext (E1.trans E2))) (h (hh.objs.size + 1) hh.objs.size f2 f1 (Nat.succ_ne_self _))) fun r s' z => ?_
  rcases r with e | (_ | _ | _ | v)
  · exact Post.after (E1.trans E2) z
  · exact z.elim
  · exact z.elim
  · exact z.elim
  · obtain ⟨v', H', ⟨hv, q⟩, S', rv, E'⟩ := z
    subst hv
    have : v = .none := by cases rv; rfl
    refine ⟨this, ?_⟩
    exact ⟨_, H', q, S', .ref _, (E1.trans E2).trans E'⟩

/-- several names out of a tuple -/
theorem ExecW.assign_tuple {es n p' e p xs} (hst : StA env es xs) (hd : C.hd = true)
    (h : EvalW C k env e (fun v H' => ∃ vs, v = .tup vs ∧ vs.length = xs.length ∧ QS .next (setAll ρ xs vs) H') (fun v H' => RS v ρ H') ρ H)
    (hs : swapsWithSole [.Tuple es n p'] e p.line env = pure false := by rfl) (hw : swappedStores [.Tuple es n p'] e env = pure none := by rfl) : ExecW C k env (.Assign [.Tuple es n p'] e p) QS RS ρ H := fun A a s S => by
  refine Assign_Tuple (wpAny_mono (h A a s S) ?_ fun _ _ p => p.toX S) hs hw
  rintro u s' ⟨v, H', ⟨vs, rfl, hl, q⟩, S', r, E⟩
  exact AssignW.tuple (Q := fun ρ' => QS .next ρ' H') hst hl hd q A a s' u (S.ext S' E) r _ _ (fun ρ' s'' q' S'' E'' => ⟨.next, ρ', H', q', trivial, S'', E.toF.trans E''⟩)

end Mine

set_option Elab.async false
set_option linter.unusedVariables false
namespace Mine
open PySem PySem.W PyProof.Rows

variable {C : Cx} {k : Nat} {K : Frag} {env : Env} {ρ : Rho} {H : Hp} {Q R : V → Hp → Prop} {QS : Fl → Rho → Hp → Prop} {RS : V → Rho → Hp → Prop}

/- list methods that change the list -/
theorem listUpd {s : Shared} {a : Addr} {l l' : List V} {xs : Array Value} {n : Nat} {f : Array Value → Array Value} (S : Sim C H s) (ha : H a = some (.list l)) (ho : s.heap.get? a = some { cls := .type "list", data := .seq xs n })
    (hr : ∀ h' H', ExtV H s.heap H' h' → VRelL h' H' l' (f xs).toList) : Sim C (H.set a (.list l')) { s with heap := s.heap.update a (Obj.mapSeq f) } ∧ Ext H s.heap (H.set a (.list l')) (s.heap.update a (Obj.mapSeq f)) := by
  obtain ⟨n', e1⟩ : ∃ n', Obj.mapSeq f { cls := .type "list", data := .seq xs n } = { cls := .type "list", data := .seq (f xs) n' } := ⟨_, rfl⟩
  have hs := Heap.SameBut.update s.heap a (Obj.mapSeq f)
  have hl' : (s.heap.update a (Obj.mapSeq f)).PlainList a (f xs) := ⟨n', by rw [Heap.get?_update_self _ ho (by rw [e1]; rfl), e1]⟩
  generalize s.heap.update a (Obj.mapSeq f) = h' at hs hl'
  have hex : ∃ ob, h'.get? a = some ob := let ⟨_, e⟩ := hl'; ⟨_, e⟩
  have hne : ∀ b, H b = none → b ≠ a := fun b e q => by subst q; rw [ha] at e; cases e
  have E0 : ExtV H s.heap (H.set a (.list l')) h' := fun b ob _ _ e _ n => ⟨(hs.2 b (hne b n)).trans e, by unfold Hp.set; rw [if_neg (hne b n)]; exact n⟩
  exact S.update (s' := { s with heap := h' }) (o' := .list l') ha hs hex rfl rfl ⟨_, hl', hr _ _ E0⟩

theorem MethIs.extend {a : Addr} {l : List V} (ha : H a = some (.list l)) : MethIs C H (.ref a) "extend" (.builtin "list.extend") := MethIs.list ha F.slot_list_extend F.type_list_extend
theorem MethIs.pop {a : Addr} {l : List V} (ha : H a = some (.list l)) : MethIs C H (.ref a) "pop" (.builtin "list.pop") := MethIs.list ha F.slot_list_pop F.type_list_pop
theorem MethIs.remove {a : Addr} {l : List V} (ha : H a = some (.list l)) : MethIs C H (.ref a) "remove" (.builtin "list.remove") := MethIs.list ha F.slot_list_remove F.type_list_remove
theorem MethIs.reverse {a : Addr} {l : List V} (ha : H a = some (.list l)) : MethIs C H (.ref a) "reverse" (.builtin "list.reverse") := MethIs.list ha F.slot_list_reverse F.type_list_reverse
theorem MethIs.clear {a : Addr} {l : List V} (ha : H a = some (.list l)) : MethIs C H (.ref a) "clear" (.builtin "list.clear") := MethIs.list ha F.slot_list_clear F.type_list_clear
theorem VRelL.eraseIdx {h : Heap} {H : Hp} : ∀ {l : List V} {xs : List Value} (i : Nat), VRelL h H l xs → VRelL h H (l.eraseIdx i) (xs.eraseIdx i)
  | _, _, i, .nil => .nil
  | _, _, 0, .cons hv hl => hl
  | _, _, i + 1, .cons hv hl => .cons hv (hl.eraseIdx i)

theorem CallW.extend {a b : Addr} {l l2 : List V} (ha : H a = some (.list l)) (hb : H b = some (.list l2)) (hn : l.length + l2.length ≤ 50000) (h : Q .none (H.set a (.list (l ++ l2)))) : CallW C k (.builtin "list.extend") [.ref a, .ref b] Q R H := fun A lv s xs S r => by
  cases r with
  | cons r1 r' => cases r' with
    | cons r2 r' =>
      cases r'; cases r1; cases r2
      obtain ⟨xs, ⟨n, ho⟩, rl⟩ := S.objs _ _ ha
      obtain ⟨ys, ⟨n2, ho2⟩, rl2⟩ := S.objs _ _ hb
      have hz : xs.size = l.length := by have := rl.length; simpa using this
      have hz2 : ys.size = l2.length := by have := rl2.length; simpa using this
      have hs := sizeLine_eq
      obtain ⟨S', E'⟩ := listUpd (l' := l ++ l2) (f := fun x => x ++ ys) S ha ho fun h' H' E => by simpa using (rl.extV E).append (rl2.extV E)
      refine call_meets F.slot_list_extend ⟨_, ho, rfl⟩ F.entry_list_extend (F.args_list_extend_2 _ _) (AutoSeq1.list_extend_list_list_0 a xs n b ys n2 ?_ (by omega) (by omega)) ⟨ho, ho2, ?_⟩
      · have : Builtin.List.listTooLong (xs.size + ys.size) = false := by
          unfold Builtin.List.listTooLong; simp; omega
        simp [this]
      · exact ⟨.none, _, h, S', .none, E'⟩
theorem seqIndex_at {i : Int} {n : Nat} (h0 : 0 ≤ i) (hi : i.toNat < n) : seqIndex? i n = some i.toNat := by
  unfold seqIndex?
  have : ¬ i < 0 := by omega
  simp [this, hi]; omega
theorem CallW.popAt {a : Addr} {l : List V} {i : Int} {u : V} (ha : H a = some (.list l)) (h0 : 0 ≤ i) (hi : i < 2 ^ 62) (hx : l[i.toNat]? = some u) (hn : l.length ≤ 50000) (h : Q u (H.set a (.list (l.eraseIdx i.toNat)))) : CallW C k (.builtin "list.pop") [.ref a, .int i] Q R H := fun A lv s xs S r => by
  cases r with
  | cons r1 r' => cases r' with
    | cons r2 r' =>
      cases r'; cases r1; cases r2
      obtain ⟨xs, ⟨n, ho⟩, rl⟩ := S.objs _ _ ha
      have hz : xs.size = l.length := by have := rl.length; simpa using this
      have hs := sizeLine_eq
      have hlt : i.toNat < l.length := (List.getElem?_eq_some_iff.mp hx).1
      obtain ⟨z, ez, rz⟩ := rl.get hx
      obtain ⟨S', E'⟩ := listUpd (l' := l.eraseIdx i.toNat) (f := fun x => x.eraseIdxIfInBounds i.toNat) S ha ho fun h' H' E => by
        have : (xs.eraseIdxIfInBounds i.toNat).toList = xs.toList.eraseIdx i.toNat := by
          unfold Array.eraseIdxIfInBounds
          have : i.toNat < xs.size := by omega
          simp [this]
        rw [this]
        exact (rl.extV E).eraseIdx _
      refine call_meets F.slot_list_pop ⟨_, ho, rfl⟩ F.entry_list_pop (F.args_list_pop_2 _ _) (MeetsSeq.list_pop_at a xs n i _ i.toNat z ?_ (seqIndex_at h0 (by omega)) (by simpa using ez) (by omega)) ⟨ho, ?_⟩
      · unfold Builtin.List.listFitsIndex; simp; omega
      · exact ⟨u, _, h, S', (rz.extV E'.v), E'⟩
theorem CallW.popLast {a : Addr} {l : List V} {u : V} (ha : H a = some (.list l)) (hx : l[l.length - 1]? = some u) (hn : l.length ≤ 50000) (h : Q u (H.set a (.list (l.eraseIdx (l.length - 1))))) : CallW C k (.builtin "list.pop") [.ref a] Q R H := fun A lv s xs S r => by
  cases r with
  | cons r1 r' =>
      cases r'; cases r1
      obtain ⟨xs, ⟨n, ho⟩, rl⟩ := S.objs _ _ ha
      have hz : xs.size = l.length := by have := rl.length; simpa using this
      have hs := sizeLine_eq
      have hlt : l.length - 1 < l.length := (List.getElem?_eq_some_iff.mp hx).1
      obtain ⟨z, ez, rz⟩ := rl.get hx
      obtain ⟨S', E'⟩ := listUpd (l' := l.eraseIdx (l.length - 1)) (f := fun x => x.eraseIdxIfInBounds (xs.size - 1)) S ha ho fun h' H' E => by
        have : (xs.eraseIdxIfInBounds (xs.size - 1)).toList = xs.toList.eraseIdx (xs.size - 1) := by
          unfold Array.eraseIdxIfInBounds
          have : xs.size - 1 < xs.size := by omega
          rw [dif_pos this]
          simp
        rw [this, hz]
        exact (rl.extV E).eraseIdx _
      refine call_meets F.slot_list_pop ⟨_, ho, rfl⟩ F.entry_list_pop (F.args_list_pop_1 _) (MeetsSeq.list_pop_last a xs n z (by rw [hz]; simpa using ez) (by omega)) ⟨ho, ?_⟩
      exact ⟨u, _, h, S', (rz.extV E'.v), E'⟩
theorem CallW.reverse {a : Addr} {l : List V} (ha : H a = some (.list l)) (hn : l.length ≤ 50000) (h : Q .none (H.set a (.list l.reverse))) : CallW C k (.builtin "list.reverse") [.ref a] Q R H := fun A lv s xs S r => by
  cases r with
  | cons r1 r' =>
      cases r'; cases r1
      obtain ⟨xs, ⟨n, ho⟩, rl⟩ := S.objs _ _ ha
      have hz : xs.size = l.length := by have := rl.length; simpa using this
      have hs := sizeLine_eq
      obtain ⟨S', E'⟩ := listUpd (l' := l.reverse) (f := fun x => x.reverse) S ha ho fun h' H' E => by simpa using (rl.extV E).reverse
      refine call_meets F.slot_list_reverse ⟨_, ho, rfl⟩ F.entry_list_reverse (F.args_list_reverse_1 _) (AutoSeq1.list_reverse_list_0 a xs n (by omega)) ⟨ho, ?_⟩
      exact ⟨.none, _, h, S', .none, E'⟩
theorem CallW.clear {a : Addr} {l : List V} (ha : H a = some (.list l)) (hn : l.length ≤ 50000) (h : Q .none (H.set a (.list []))) : CallW C k (.builtin "list.clear") [.ref a] Q R H := fun A lv s xs S r => by
  cases r with
  | cons r1 r' =>
      cases r'; cases r1
      obtain ⟨xs, ⟨n, ho⟩, rl⟩ := S.objs _ _ ha
      have hz : xs.size = l.length := by have := rl.length; simpa using this
      have hs := sizeLine_eq
      obtain ⟨S', E'⟩ := listUpd (l' := []) (f := fun _ => #[]) S ha ho fun h' H' E => by simpa using VRelL.nil
      refine call_meets F.slot_list_clear ⟨_, ho, rfl⟩ F.entry_list_clear (F.args_list_clear_1 _) (AutoSeq1.list_clear_list_0 a xs n (by omega)) ⟨ho, ?_⟩
      exact ⟨.none, _, h, S', .none, E'⟩

/- dicts with str keys -/
theorem SubW.dictS {value slice} {a : Addr} {m : Str → Option V} {n : Nat} {x : Str} {u : V} (ha : H a = some (.dictS m n)) (hx : m x = some u) (h : Q u H)
    (hs : ∀ o i, subscripted slice false o i = operate [o, i] (getItem o i) := by intros; rfl) : SubW C k value slice (.ref a) (.str x) Q R H := fun A lv s y z S r1 r2 => by
  cases r1; cases r2
  obtain ⟨f, hm, hle, hr⟩ := S.objs _ _ ha
  have hu := hr x
  rw [hx] at hu
  obtain ⟨w, hf, hu⟩ := hu.get
  exact tail_any hm.typeIs slot_dict_getitem.lookup (wpAny_getItem_of (strKind_is _ _ _ _) hm.mapOf hf (Post.here h (S.toks _) hu rfl)) (hs _ _)
theorem stored_length_in {K : Type} [DecidableEq K] (kvs : List (K × Value)) (k : K) (v : Value) (h : (valueAt kvs k).isSome = true) : (stored kvs k v).length = kvs.length := by
  unfold stored
  rw [if_pos ?_]
  · simp
  · unfold valueAt at h
    cases q : kvs.find? (fun kv => decide (kv.1 = k)) with
    | none => rw [q] at h; cases h
    | some p => exact List.any_eq_true.mpr ⟨p, List.mem_of_find?_eq_some q, by simpa using List.find?_some q⟩
theorem SetW.dictS {a : Addr} {l : List (Str × V)} {n : Nat} {i : Str} {u : V} {QH : Hp → Prop} (ha : H a = some (.dictS (Rho.of l) n)) (hn : n ≤ 100000) (hi : (Rho.of l i).isSome = true) (h : QH (H.set a (.dictS (Rho.of (putL l i u)) n))) : SetW C k (.ref a) (.str i) u QH R H := fun A lv s x y z S r1 r2 r3 => by
  cases r1; cases r2
  obtain ⟨f, hm, hle, hr⟩ := S.objs _ _ ha
  refine wpAny_setItem_pairs (strKind_is _ _ _ _) hm (fun h' hm' hs => ?_) (Nat.le_trans hle (Nat.le_trans hn (by decide)))
  have hex : ∃ ob, h'.get? a = some ob := let ⟨o, _, _, e, _⟩ := hm'; ⟨o, e⟩
  have hne : ∀ b, H b = none → b ≠ a := fun b e q => by subst q; rw [ha] at e; cases e
  have E0 : ∀ o', ExtV H s.heap (H.set a o') h' := fun o' b ob _ _ e _ n => ⟨(hs.2 b (hne b n)).trans e, by unfold Hp.set; rw [if_neg (hne b n)]; exact n⟩
  have hin : (valueAt f i).isSome = true := by
    obtain ⟨w, hw⟩ := Option.isSome_iff_exists.mp hi
    have := hr i; rw [hw] at this
    obtain ⟨y, hy, _⟩ := this.get
    rw [hy]; rfl
  obtain ⟨S', E'⟩ := S.update (s' := { s with heap := h', toks := s.toks + 1 }) (o' := .dictS (Rho.of (putL l i u)) n) ha hs hex rfl rfl
    ⟨_, hm', by rw [stored_length_in _ _ _ hin]; exact hle, fun x => by
      rw [valueAt_stored', ← of_putL]
      unfold Rho.set
      by_cases q : x = i
      · simp only [q, if_true]; exact r3.extV (E0 _)
      · simp only [q, if_false]; exact (hr x).extV (E0 _)⟩
  exact ⟨(), _, h, S', trivial, E'⟩

/- a display with str keys -/
inductive KVRel (h : Heap) (H : Hp) : List (Str × V) → List (Str × Value) → Prop
  | nil : KVRel h H [] []
  | cons {x : Str} {v : V} {u : Value} {l : List (Str × V)} {kvs : List (Str × Value)} (hv : VRel h H v u) (hl : KVRel h H l kvs) : KVRel h H ((x, v) :: l) ((x, u) :: kvs)
theorem KVRel.extV {H h H' h'} (E : ExtV H h H' h') : ∀ {l kvs}, KVRel h H l kvs → KVRel h' H' l kvs
  | _, _, .nil => .nil
  | _, _, .cons hv hl => .cons (hv.extV E) (hl.extV E)
theorem KVRel.length {h H} : ∀ {l kvs}, KVRel h H l kvs → kvs.length = l.length
  | _, _, .nil => rfl
  | _, _, .cons hv hl => by simp [hl.length]
def PRel (C : Cx) (h : Heap) (H : Hp) (l : List (Str × V)) (vs : List (Value × Value)) : Prop := ∃ kvs, Carries (strKind C.prog C.w) vs kvs ∧ KVRel h H l kvs
def PairsW (C : Cx) (k : Nat) (env : Env) (keys : List (Option Expr)) (values : List Expr) (Q : List (Str × V) → Hp → Prop) (R : V → Hp → Prop) (ρ : Rho) (H : Hp) : Prop :=
  ∀ A, Lv C k A → ∀ s, SimL C env ρ H s → ∀ pos, wpAny C.M A (evalPairs (pairTrees keys values env pos)) (Post C H s.heap (PRel C) Q) (Post C H s.heap VRel R) s
theorem PairsW.nil {QL : List (Str × V) → Hp → Prop} (h : QL [] H) : PairsW C k env [] [] QL R ρ H := fun A a s S pos => evalPairs_nil (Post.here h S.sim ⟨[], trivial, .nil⟩ rfl)
theorem PairsW.cons {x c p v ks vs} {QL : List (Str × V) → Hp → Prop} (h : EvalW C k env v (fun u H₁ => PairsW C k env ks vs (fun l H₂ => QL ((x, u) :: l) H₂) R ρ H₁) R ρ H) : PairsW C k env (some (.Constant (.str x) c p) :: ks) (v :: vs) QL R ρ H := fun A a s S pos => by
  refine evalPairs_cons ?_
  refine wpAny_mkText ?_
  refine wpAny_bind (wp_go (h A a _ (S.toks _)) (fun y u H₁ s₁ h₁ S₁ r₁ E₁ => ?_) fun _ _ p => p)
  refine wpAny_bind (wpAny_standAt (wpAny_pure ?_))
  refine wp_go (h₁ A a s₁ (S.ext S₁ E₁) pos) (fun ws l H₂ s₂ h₂ S₂ r₂ E₂ => ?_) fun _ _ p => p.after E₁
  obtain ⟨kvs, hc, hk⟩ := r₂
  exact ⟨_, H₂, h₂, S₂, ⟨(x, y) :: kvs, ⟨strKind_is _ _ _ _, rfl, hc⟩, .cons (r₁.ext E₂) hk⟩, E₁.trans E₂⟩

def mergeL : List (Str × V) → List (Str × V) → List (Str × V)
  | l0, [] => l0
  | l0, (x, v) :: l => mergeL (putL l0 x v) l
theorem merged_rel {h : Heap} {H : Hp} : ∀ {l : List (Str × V)} {kvs : List (Str × Value)}, KVRel h H l kvs → ∀ (l0 : List (Str × V)) (acc : List (Str × Value)), (∀ x, OptRel h H (Rho.of l0 x) (valueAt acc x)) → ∀ x, OptRel h H (Rho.of (mergeL l0 l) x) (valueAt (merged acc kvs) x)
  | _, _, .nil, l0, acc, h0, x => h0 x
  | _, _, .cons (x := y) (v := v) (u := u) hv hl, l0, acc, h0, x => by
    refine merged_rel hl (putL l0 y v) (stored acc y u) (fun z => ?_) x
    rw [valueAt_stored', ← of_putL]
    unfold Rho.set
    by_cases q : z = y
    · simp only [q, if_true]; exact hv
    · simp only [q, if_false]; exact h0 z

/-- an object that nobody owned is taken up -/
theorem Sim.own {s s' : Shared} {b : Addr} {ob : Obj} {o : O} (S : Sim C H s) (hb : s.heap.get? b = some ob) (nb : ∀ xs n, ob.data ≠ .seq xs n) (new : C.base.get? b = none) (nsys : b ≠ sysModules)
    (hs : Heap.SameBut b s.heap s'.heap) (hg : s'.gens = s.gens) (ho : s'.os = s.os) (hr : ORel C s'.heap (H.set b o) b o) : Sim C (H.set b o) s' := by
  have EV : ExtV H s.heap (H.set b o) s'.heap := fun a oa xs n e d m => by
    have hne : a ≠ b := fun q => by subst q; rw [hb] at e; cases e; exact nb _ _ d
    exact ⟨(hs.2 a hne).trans e, by unfold Hp.set; rw [if_neg hne]; exact m⟩
  refine ⟨fun a oa e => (hs.2 a fun q => ?_).trans (S.keep a oa e), hg.trans S.gens, ho.trans S.os, fun a o' e => ?_, fun a e => ?_⟩
  · subst q; rw [new] at e; cases e
  · unfold Hp.set at e
    split at e
    · rename_i q; subst q; cases e; exact hr
    · rename_i q; exact (S.objs a o' e).same EV (hs.2 a q)
  · unfold Hp.set at e
    split at e
    · rename_i q; subst q; exact ⟨new, nsys⟩
    · exact S.new a e

theorem EvalW.dictS {keys values p} (h : PairsW C k env keys values (fun l H₁ => ∀ a, H₁ a = Option.none → H a = Option.none → Q (.ref a) (H₁.set a (.dictS (Rho.of (mergeL [] l)) l.length))) R ρ H)
    (hall : keys.all (·.isSome) = true := by rfl) (hl : keys.length = values.length := by rfl) (h0 : keys ≠ [] := by simp) (hlen : keys.length ≤ 15 := by decide) : EvalW C k env (.Dict keys values p) Q R ρ H := fun A a s S => by
  refine wpAny_Dict_walk (knd := strKind C.prog C.w) hall hl h0 hlen ?_
  have hk : ∀ b o, s.heap.get? b = some o → (s.heap.push { cls := .type "dict", data := .dict #[] }).get? b = some o := fun b o e => Heap.get?_push_of_some _ e
  have hz : (s.heap.push { cls := .type "dict", data := .dict #[] }).get? s.heap.objs.size = some { cls := .type "dict", data := .dict #[] } := Heap.get?_push_size _ rfl
  have S1 : Sim C H { s with heap := s.heap.push { cls := .type "dict", data := .dict #[] } } := S.sim.grown hk rfl rfl
  have fr : H s.heap.objs.size = Option.none := S.sim.fresh (Nat.le_refl _)
  refine wp_go (h A a { s with heap := s.heap.push { cls := .type "dict", data := .dict #[] } } (S.ext S1 (Ext.grown hk)) p) (fun vs l H₁ s₁ h₁ S₁ r₁ E₁ => ?_) fun _ _ p => p.after (Ext.grown hk)
  obtain ⟨kvs, hc, hkv⟩ := r₁
  have hD : s₁.heap.get? s.heap.objs.size = some { cls := .type "dict", data := .dict #[] } := E₁.keep _ _ hz fr
  have fr1 : H₁ s.heap.objs.size = Option.none := E₁.grow _ _ hz fr
  refine ⟨kvs, hc, ?_, fun h' hm hs => ?_⟩
  · have := Heap.DictOf.new (knd := strKind C.prog C.w) s.heap
    obtain ⟨o, es, ep, e, r⟩ := this
    rw [hz] at e; cases e
    exact ⟨_, es, ep, hD, r⟩
  · have nb : ∀ xs n, ({ cls := .type "dict", data := .dict #[] } : Obj).data ≠ .seq xs n := fun _ _ q => by cases q
    have EV : ∀ o', ExtV H₁ s₁.heap (H₁.set s.heap.objs.size o') h' := fun o' b ob xs n e d m => by
      have hne : b ≠ s.heap.objs.size := fun q => by subst q; rw [hD] at e; cases e; exact nb _ _ d
      exact ⟨(hs.2 b hne).trans e, by unfold Hp.set; rw [if_neg hne]; exact m⟩
    have S2 := S₁.own (s' := { s₁ with heap := h', toks := s₁.toks + vs.length }) (o := .dictS (Rho.of (mergeL [] l)) l.length) hD nb (S.sim.freshB (Nat.le_refl _)) (S.sim.freshS (Nat.le_refl _)) hs rfl rfl
      ⟨_, hm, by have := merged_length_le [] kvs; rw [hkv.length] at this; simpa using this, merged_rel (hkv.extV (EV _)) [] [] fun _ => trivial⟩
    refine ⟨.ref s.heap.objs.size, _, h₁ _ fr1 fr, S2, .ref _, ⟨fun b ob e n => ?_, fun b ob e n => ?_, fun b ob e => ?_⟩⟩
    · have hne : b ≠ s.heap.objs.size := Nat.ne_of_lt (Heap.lt_size e)
      exact (hs.2 b hne).trans (E₁.keep _ _ (hk _ _ e) n)
    · have hne : b ≠ s.heap.objs.size := Nat.ne_of_lt (Heap.lt_size e)
      unfold Hp.set; rw [if_neg hne]; exact E₁.grow _ _ (hk _ _ e) n
    · have hne : b ≠ s.heap.objs.size := Nat.ne_of_lt (Heap.lt_size e)
      obtain ⟨o', e'⟩ := E₁.live _ _ (hk _ _ e)
      exact ⟨o', (hs.2 b hne).trans e'⟩

/- update -/
theorem valueAt_merged {K : Type} [DecidableEq K] : ∀ (more kvs : List (K × Value)) (x : K), (more.map (·.1)).Nodup → valueAt (merged kvs more) x = (valueAt more x).or (valueAt kvs x)
  | [], kvs, x, _ => by simp [merged, valueAt]
  | (y, v) :: more, kvs, x, hn => by
    rw [List.map_cons, List.nodup_cons] at hn
    show valueAt (merged (stored kvs y v) more) x = _
    rw [valueAt_merged more _ x hn.2, valueAt_stored']
    by_cases q : x = y
    · subst q
      have : valueAt more x = none := by
        unfold valueAt
        have : more.find? (fun kv => decide (kv.1 = x)) = none := by
          rw [List.find?_eq_none]; intro p hp; simp; intro e; exact hn.1 (List.mem_map.mpr ⟨p, hp, e⟩)
        rw [this]; rfl
      rw [this]
      simp [valueAt]
    · have q' : ¬ y = x := fun e => q e.symm
      have : valueAt ((y, v) :: more) x = valueAt more x := by simp [valueAt, q']
      rw [this]; simp [q]
theorem Rho.of_append : ∀ (l l' : List (Str × V)) (x : Str), Rho.of (l ++ l') x = (Rho.of l x).or (Rho.of l' x)
  | [], l', x => by simp [Rho.of]
  | (y, v) :: l, l', x => by
    show (Rho.of (l ++ l')).set y v x = ((Rho.of l).set y v x).or _
    unfold Rho.set
    split
    · rfl
    · exact Rho.of_append l l' x
theorem MethIs.update {a : Addr} {m : Str → Option V} {n : Nat} (ha : H a = some (.dictS m n)) : MethIs C H (.ref a) "update" (.builtin "dict.update") := by
  intro A s x pl Q E S r hq
  cases r
  obtain ⟨f, hm, hle, hr⟩ := S.objs _ _ ha
  obtain ⟨o, es, ep, e, hx, hrest⟩ := hm
  exact getMethod_builtin ⟨_, e, hx.1⟩ PySem.F.plainAttrs_dict F.slot_dict_update F.type_dict_update (fun a e' => by cases e'; exact ⟨_, e, hx.2.1⟩) hq
theorem CallW.update {a b : Addr} {l l2 : List (Str × V)} {n n2 : Nat} (ha : H a = some (.dictS (Rho.of l) n)) (hb : H b = some (.dictS (Rho.of l2) n2)) (hab : a ≠ b) (hn : n + n2 ≤ 1000) (h : Q .none (H.set a (.dictS (Rho.of (l2 ++ l)) (n + n2)))) :
    CallW C k (.builtin "dict.update") [.ref a, .ref b] Q R H := fun A lv s xs S r => by
  cases r with
  | cons r1 r' => cases r' with
    | cons r2 r' =>
      cases r'; cases r1; cases r2
      obtain ⟨f, hm, hle, hr⟩ := S.objs _ _ ha
      obtain ⟨f2, hm2, hle2, hr2⟩ := S.objs _ _ hb
      have hs := sizeLine_eq
      have nd : (f2.map (·.1)).Nodup := by obtain ⟨_, _, _, _, _, _, _, _, h⟩ := hm2; exact h
      refine call_meetsIn F.slot_dict_update hm.typeIs F.entry_dict_update (F.args_dict_update_2 _ _) (meets_dict_update (strKind C.prog C.w) a b hab (S.noSys hb)) ⟨f, f2, hm, hm2, by omega, fun h' hm' hm2' hsb => ?_⟩
      have hex : ∃ ob, h'.get? a = some ob := let ⟨o, _, _, e, _⟩ := hm'; ⟨o, e⟩
      have hne : ∀ b, H b = none → b ≠ a := fun b e q => by subst q; rw [ha] at e; cases e
      have E0 : ∀ o', ExtV H s.heap (H.set a o') h' := fun o' b ob _ _ e _ n => ⟨(hsb.2 b (hne b n)).trans e, by unfold Hp.set; rw [if_neg (hne b n)]; exact n⟩
      obtain ⟨S', E'⟩ := S.update (s' := { s with heap := h' }) (o' := .dictS (Rho.of (l2 ++ l)) (n + n2)) ha hsb hex rfl rfl
        ⟨_, hm', Nat.le_trans (merged_length_le _ _) (Nat.add_le_add hle hle2), fun x => by
          rw [valueAt_merged _ _ _ nd, Rho.of_append]
          have h2 := (hr2 x).extV (E0 (.dictS (Rho.of (l2 ++ l)) (n + n2)))
          have h1 := (hr x).extV (E0 (.dictS (Rho.of (l2 ++ l)) (n + n2)))
          cases q1 : Rho.of l2 x <;> cases q2 : valueAt f2 x <;> rw [q1, q2] at h2
          · simpa using h1
          · exact h2.elim
          · exact h2.elim
          · exact h2⟩
      exact ⟨.none, _, h, S', .none, E'⟩

end Mine

set_option Elab.async false
set_option linter.unusedVariables false
namespace Mine

inductive LW where
  | ask | freed | back
  deriving DecidableEq
abbrev Lt := LW × Nat × Nat

structure HandM where
  num : Nat
  asker : Bool
  wait : Option (Bool × List Nat)
  freed : Bool
  has : Bool
  askers : List Nat
  heard : List Nat
  owed : Int
  waker : Option Nat
def HandM.others (m : HandM) : List Nat := match m.wait with
  | none => []
  | some (_, l) => l
def HandM.isAll (m : HandM) : Bool := match m.wait with
  | some (true, _) => true
  | _ => false
def initM (num : Nat) (w : Option (Bool × List Nat)) (b : Bool) : HandM := ⟨num, b, w, w.isNone, false, [], [], 0, none⟩
def sendM (m : HandM) (w : LW) (l : List Nat) : HandM × List Lt := ({ m with owed := m.owed + l.length }, l.map fun x => (w, m.num, x))
def beginM (m : HandM) : HandM × List Lt := if m.freed = true then (m, []) else sendM { m with has := true } .ask m.others
def askedM (m : HandM) (s : Nat) : HandM × List Lt :=
  if m.freed = true then sendM m .freed [s] else if m.has = true then ({ m with askers := m.askers ++ [s] }, []) else beginM { m with askers := m.askers ++ [s] }
def toldM (m : HandM) (s : Nat) : HandM × List Lt :=
  if m.freed = true then ({ m with heard := s :: m.heard }, [])
  else if m.isAll && !(m.others.all fun o => decide (o ∈ s :: m.heard)) then ({ m with heard := s :: m.heard }, [])
  else sendM { m with heard := s :: m.heard, freed := true } .freed m.askers
def wakeM (m : HandM) (w : LW) (s : Nat) : HandM × List Lt :=
  if w = .back then ({ m with owed := m.owed - 1 }, []) else if m.asker || m.waker.isSome then (m, [(.back, m.num, s)]) else ({ m with waker := some s }, [])
def midM (m : HandM) (w : LW) (s : Nat) : HandM × List Lt := match w with
  | .ask => askedM m s
  | .freed => toldM m s
  | .back => (m, [])
def endM (m : HandM) (fl : List Lt) : HandM × List Lt := match m.waker with
  | some u => if m.owed = 0 then ({ m with waker := none }, fl ++ [(.back, m.num, u)]) else (m, fl)
  | none => (m, fl)
def comeM (m : HandM) (w : LW) (s : Nat) : HandM × List Lt :=
  endM (midM (wakeM m w s).1 w s).1 ((wakeM m w s).2 ++ (midM (wakeM m w s).1 w s).2)

/- what stays in a hand -/
structure Same (m m' : HandM) : Prop where
  num : m'.num = m.num
  asker : m'.asker = m.asker
  wait : m'.wait = m.wait
theorem Same.refl (m : HandM) : Same m m := ⟨rfl, rfl, rfl⟩
theorem Same.trans {a b c : HandM} (x : Same a b) (y : Same b c) : Same a c := ⟨y.num.trans x.num, y.asker.trans x.asker, y.wait.trans x.wait⟩
theorem begin_same (m) : Same m (beginM m).1 := by unfold beginM; split <;> exact ⟨rfl, rfl, rfl⟩
theorem asked_same (m s) : Same m (askedM m s).1 := by
  unfold askedM; split
  · exact ⟨rfl, rfl, rfl⟩
  · split
    · exact ⟨rfl, rfl, rfl⟩
    · have := begin_same { m with askers := m.askers ++ [s] }; exact ⟨this.num, this.asker, this.wait⟩
theorem told_same (m s) : Same m (toldM m s).1 := by
  unfold toldM; split
  · exact ⟨rfl, rfl, rfl⟩
  · split <;> exact ⟨rfl, rfl, rfl⟩
theorem wake_same (m w s) : Same m (wakeM m w s).1 := by
  unfold wakeM; split
  · exact ⟨rfl, rfl, rfl⟩
  · split <;> exact ⟨rfl, rfl, rfl⟩
theorem mid_same (m w s) : Same m (midM m w s).1 := by
  cases w
  · exact asked_same m s
  · exact told_same m s
  · exact .refl m
theorem end_same (m fl) : Same m (endM m fl).1 := by
  unfold endM; split
  · split <;> exact ⟨rfl, rfl, rfl⟩
  · exact .refl m
theorem come_same (m w s) : Same m (comeM m w s).1 := ((wake_same m w s).trans (mid_same _ w s)).trans (end_same _ _)
theorem Same.others {m m' : HandM} (h : Same m m') : m'.others = m.others := by unfold HandM.others; rw [h.wait]

/- sizes -/
theorem begin_sizes (m) : (beginM m).1.askers = m.askers ∧ (beginM m).1.heard = m.heard ∧ (beginM m).2.length ≤ m.others.length := by
  unfold beginM; split
  · exact ⟨rfl, rfl, Nat.zero_le _⟩
  · exact ⟨rfl, rfl, by simp [sendM]⟩
theorem mid_sizes (m w s) : (midM m w s).1.askers.length ≤ m.askers.length + 1 ∧ (midM m w s).1.heard.length ≤ m.heard.length + 1 ∧ (midM m w s).2.length ≤ m.others.length + m.askers.length + 1 := by
  cases w
  · show (askedM m s).1.askers.length ≤ _ ∧ (askedM m s).1.heard.length ≤ _ ∧ (askedM m s).2.length ≤ _
    unfold askedM; split
    · exact ⟨Nat.le_succ _, Nat.le_succ _, by simp [sendM]⟩
    · split
      · exact ⟨by simp, Nat.le_succ _, Nat.zero_le _⟩
      · have := begin_sizes { m with askers := m.askers ++ [s] }
        refine ⟨by rw [this.1]; simp, by rw [this.2.1]; exact Nat.le_succ _, ?_⟩
        have h := this.2.2
        show _ ≤ _
        have e : HandM.others { m with askers := m.askers ++ [s] } = m.others := rfl
        rw [e] at h; omega
  · show (toldM m s).1.askers.length ≤ _ ∧ (toldM m s).1.heard.length ≤ _ ∧ (toldM m s).2.length ≤ _
    unfold toldM; split
    · exact ⟨Nat.le_succ _, by simp, Nat.zero_le _⟩
    · split
      · exact ⟨Nat.le_succ _, by simp, Nat.zero_le _⟩
      · exact ⟨Nat.le_succ _, by simp [sendM], by simp [sendM]; omega⟩
  · exact ⟨Nat.le_succ _, Nat.le_succ _, Nat.zero_le _⟩
theorem wake_sizes (m w s) : (wakeM m w s).1.askers = m.askers ∧ (wakeM m w s).1.heard = m.heard ∧ (wakeM m w s).2.length ≤ 1 := by
  unfold wakeM; split
  · exact ⟨rfl, rfl, Nat.zero_le _⟩
  · split
    · exact ⟨rfl, rfl, Nat.le_refl _⟩
    · exact ⟨rfl, rfl, Nat.zero_le _⟩
theorem end_sizes (m fl) : (endM m fl).1.askers = m.askers ∧ (endM m fl).1.heard = m.heard ∧ (endM m fl).2.length ≤ fl.length + 1 := by
  unfold endM; split
  · split
    · exact ⟨rfl, rfl, by simp⟩
    · exact ⟨rfl, rfl, Nat.le_succ _⟩
  · exact ⟨rfl, rfl, Nat.le_succ _⟩
theorem come_sizes (m w s) : (comeM m w s).1.askers.length ≤ m.askers.length + 1 ∧ (comeM m w s).1.heard.length ≤ m.heard.length + 1 ∧ (comeM m w s).2.length ≤ m.others.length + m.askers.length + 3 := by
  unfold comeM
  obtain ⟨a1, a2, a3⟩ := wake_sizes m w s
  obtain ⟨b1, b2, b3⟩ := mid_sizes (wakeM m w s).1 w s
  obtain ⟨c1, c2, c3⟩ := end_sizes (midM (wakeM m w s).1 w s).1 ((wakeM m w s).2 ++ (midM (wakeM m w s).1 w s).2)
  rw [a1] at b1 b3
  rw [a2] at b2
  have e := (wake_same m w s).others
  rw [e] at b3
  refine ⟨by rw [c1]; exact b1, by rw [c2]; exact b2, ?_⟩
  rw [List.length_append] at c3
  omega

/- the letters that leave -/
theorem begin_out {m t} (h : t ∈ (beginM m).2) : t.2.1 = m.num ∧ t.1 = .ask ∧ t.2.2 ∈ m.others := by
  unfold beginM at h; split at h
  · cases h
  · simp only [sendM, List.mem_map] at h
    obtain ⟨x, hx, rfl⟩ := h
    exact ⟨rfl, rfl, hx⟩
theorem mid_out {m w s t} (h : t ∈ (midM m w s).2) : t.2.1 = m.num ∧ t.1 ≠ .back ∧ (t.2.2 = s ∨ t.2.2 ∈ m.others ∨ t.2.2 ∈ m.askers) := by
  cases w
  · change t ∈ (askedM m s).2 at h
    unfold askedM at h; split at h
    · simp [sendM] at h; subst h; exact ⟨rfl, by simp, .inl rfl⟩
    · split at h
      · cases h
      · obtain ⟨a, b, c⟩ := begin_out h
        exact ⟨a, by rw [b]; simp, .inr (.inl c)⟩
  · change t ∈ (toldM m s).2 at h
    unfold toldM at h; split at h
    · cases h
    · split at h
      · cases h
      · simp only [sendM, List.mem_map] at h
        obtain ⟨x, hx, rfl⟩ := h
        exact ⟨rfl, by simp, .inr (.inr hx)⟩
  · cases h
theorem mid_waker (m w s) : (midM m w s).1.waker = m.waker := by
  cases w
  · show (askedM m s).1.waker = _
    unfold askedM; split
    · rfl
    · split
      · rfl
      · unfold beginM; split <;> rfl
  · show (toldM m s).1.waker = _
    unfold toldM; split
    · rfl
    · split <;> rfl
  · rfl
theorem wake_out {m w s t} (h : t ∈ (wakeM m w s).2) : t = (.back, m.num, s) ∧ w ≠ .back := by
  unfold wakeM at h; split at h
  · cases h
  · rename_i hw
    split at h
    · simp at h; exact ⟨h, hw⟩
    · cases h
end Mine

set_option Elab.async false
set_option linter.unusedVariables false
namespace Mine
open PySem PySem.W PyProof.Rows

def LW.str : LW → Str
  | .ask => Str.ofString "ask"
  | .freed => Str.ofString "freed"
  | .back => Str.ofString "back"
def lv : Lt → V
  | (w, a, b) => .tup [.str w.str, nv a, nv b]

def HandM.word (m : HandM) : Str := match m.wait with
  | none => Str.ofString ""
  | some (b, _) => Str.ofString (if b = true then "all" else "any")
structure HA where
  i : Addr
  d : Addr
  a : Addr
  h : Addr
def handNames : List Str := [Str.ofString "number", Str.ofString "is_asker", Str.ofString "is_freed", Str.ofString "word", Str.ofString "others", Str.ofString "has_asked", Str.ofString "askers", Str.ofString "heard", Str.ofString "owed", Str.ofString "waker"]
def attrs (A : HA) (m : HandM) : List (Str × V) := [(Str.ofString "number", .int ((m.num : Nat) : Int)), (Str.ofString "is_asker", .bool m.asker), (Str.ofString "is_freed", .bool m.freed), (Str.ofString "word", .str m.word), (Str.ofString "others", .lst (m.others.map nv)),
  (Str.ofString "has_asked", .bool m.has), (Str.ofString "askers", .ref A.a), (Str.ofString "heard", .ref A.h), (Str.ofString "owed", .int m.owed), (Str.ofString "waker", ov m.waker)]
def heardM (l : List Nat) : Int → Option V := fun i => if 0 ≤ i ∧ i.toNat ∈ l then some (.bool true) else none

structure HandRep (c : Addr) (H : Hp) (A : HA) (m : HandM) : Prop where
  i : H A.i = some (.inst c A.d)
  d : H A.d = some (.ns (Rho.of (attrs A m)) 10)
  a : H A.a = some (.list (m.askers.map nv))
  h : H A.h = some (.dictI (heardM m.heard) m.heard.length)

structure HandCls (K : Frag) (c : Addr) : Prop where
  ok : ClsOk K c
  names : (handNames.all fun x => findIn K (.ref c) x == some none) = true

def HFrame (H H' : Hp) (A : HA) : Prop := ∀ b o, H b = some o → b ≠ A.d → b ≠ A.a → b ≠ A.h → H' b = some o

theorem Hp.ne {H : Hp} {a b : Addr} {o : O} (ha : H a = some o) (hb : H b = none) : a ≠ b := fun e => by subst e; rw [ha] at hb; cases hb
theorem Hp.ne' {H : Hp} {a b : Addr} {o o' : O} (ha : H a = some o) (hb : H b = some o') (h : o ≠ o') : a ≠ b := fun e => by subst e; rw [ha] at hb; cases hb; exact h rfl

variable {C : Cx} {k : Nat} {K : Frag} {env : Env} {ρ : Rho} {H H' : Hp} {Q R : V → Hp → Prop} {QH : Hp → Prop} {c : Addr} {A : HA} {m m' : HandM}

theorem HandRep.nid (r : HandRep c H A m) : A.i ≠ A.d := Hp.ne' r.i r.d (by simp)
theorem HandRep.nia (r : HandRep c H A m) : A.i ≠ A.a := Hp.ne' r.i r.a (by simp)
theorem HandRep.nih (r : HandRep c H A m) : A.i ≠ A.h := Hp.ne' r.i r.h (by simp)
theorem HandRep.nda (r : HandRep c H A m) : A.d ≠ A.a := Hp.ne' r.d r.a (by simp)
theorem HandRep.ndh (r : HandRep c H A m) : A.d ≠ A.h := Hp.ne' r.d r.h (by simp)
theorem HandRep.nah (r : HandRep c H A m) : A.a ≠ A.h := Hp.ne' r.a r.h (by simp)

theorem HandRep.le (r : HandRep c H A m) (h : Hp.le H H') : HandRep c H' A m := ⟨h _ _ r.i, h _ _ r.d, h _ _ r.a, h _ _ r.h⟩
theorem HandRep.fresh {x : Addr} {o : O} (r : HandRep c H A m) (hx : H x = none) : HandRep c (H.set x o) A m := r.le (Hp.le_set hx)
theorem HandRep.other {x : Addr} {o : O} (r : HandRep c H A m) (h1 : A.i ≠ x) (h2 : A.d ≠ x) (h3 : A.a ≠ x) (h4 : A.h ≠ x) : HandRep c (H.set x o) A m :=
  ⟨(Hp.set_ne h1).trans r.i, (Hp.set_ne h2).trans r.d, (Hp.set_ne h3).trans r.a, (Hp.set_ne h4).trans r.h⟩
/-- a list besides the hand's own -/
theorem HandRep.list {x : Addr} {l l' : List V} (r : HandRep c H A m) (hx : H x = some (.list l)) (hn : x ≠ A.a) : HandRep c (H.set x (.list l')) A m :=
  r.other (Hp.ne' r.i hx (by simp)) (Hp.ne' r.d hx (by simp)) hn.symm (Hp.ne' r.h hx (by simp))
theorem HandRep.lk {x : Addr} {l : List V} (r : HandRep c H A m) (hx : H x = some (.list l)) : x ≠ A.d ∧ x ≠ A.h ∧ x ≠ A.i :=
  ⟨(Hp.ne' r.d hx (by simp)).symm, (Hp.ne' r.h hx (by simp)).symm, (Hp.ne' r.i hx (by simp)).symm⟩

theorem HFrame.refl (H : Hp) (A : HA) : HFrame H H A := fun _ _ e _ _ _ => e
theorem HFrame.trans {H'' : Hp} (x : HFrame H H' A) (y : HFrame H' H'' A) : HFrame H H'' A := fun b o e n1 n2 n3 => y b o (x b o e n1 n2 n3) n1 n2 n3
theorem HFrame.set {x : Addr} {o : O} (h : HFrame H H' A) (hx : H x = none) : HFrame H (H'.set x o) A := fun b ob e n1 n2 n3 => by
  rw [Hp.set_ne (Hp.ne e hx)]; exact h b ob e n1 n2 n3
theorem HFrame.but (h : HFrame H H' A) {H'' : Hp} {x : Addr} (e : ∀ b, b ≠ x → H'' b = H' b) (hx : x = A.d ∨ x = A.a ∨ x = A.h) : HFrame H H'' A := fun b ob eb n1 n2 n3 => by
  rw [e b (by rcases hx with q | q | q <;> rw [q] <;> assumption)]; exact h b ob eb n1 n2 n3

theorem HandCls.name (hc : HandCls K c) {x : Str} (hx : x ∈ handNames) : findIn K (.ref c) x = some none := by
  have := List.all_eq_true.mp hc.names x hx
  simpa using this
theorem HandRep.get (P : PCx C K) (hc : HandCls K c) (r : HandRep c H A m) {name : Str} {v : V} (hn : name ∈ handNames) (hm : Rho.of (attrs A m) name = some v) (hv : v.plain = true) (h : Q v H) : AttrW C k (.ref A.i) name Q R H :=
  AttrW.inst P hc.ok r.i r.d hm (hc.name hn) hv h
theorem HandRep.put (P : PCx C K) (hc : HandCls K c) (r : HandRep c H A m) {name : Str} {u : V} (m' : HandM) (hn : name ∈ handNames) (hl : (Rho.of (attrs A m) name).isSome = true) (e : putL (attrs A m) name u = attrs A m')
    (ha : m'.askers = m.askers) (hh : m'.heard = m.heard) (h : ∀ H', HandRep c H' A m' → (∀ b, b ≠ A.d → H' b = H b) → QH H') : SetAttrW C k (.ref A.i) name u QH R H := by
  refine SetAttrW.inst P hc.ok r.i r.d (hc.name hn) (by decide) hl ?_
  rw [e]
  refine h _ ⟨(Hp.set_ne r.nid).trans r.i, Hp.set_self .., ?_, ?_⟩ fun b hb => Hp.set_ne hb
  · rw [Hp.set_ne r.nda.symm, ha]; exact r.a
  · rw [Hp.set_ne r.ndh.symm, hh]; exact r.h

/- in the same form for each attribute that is stored -/
theorem attrs_owed (x : Int) : putL (attrs A m) (Str.ofString "owed") (.int x) = attrs A { m with owed := x } := by with_unfolding_all rfl
theorem attrs_waker (x : Option Nat) : putL (attrs A m) (Str.ofString "waker") (ov x) = attrs A { m with waker := x } := by with_unfolding_all rfl
theorem attrs_has (x : Bool) : putL (attrs A m) (Str.ofString "has_asked") (.bool x) = attrs A { m with has := x } := by with_unfolding_all rfl
theorem attrs_freed (x : Bool) : putL (attrs A m) (Str.ofString "is_freed") (.bool x) = attrs A { m with freed := x } := by with_unfolding_all rfl
theorem HandRep.putOwed (P : PCx C K) (hc : HandCls K c) (r : HandRep c H A m) (x : Int) (h : ∀ H', HandRep c H' A { m with owed := x } → (∀ b, b ≠ A.d → H' b = H b) → QH H') : SetAttrW C k (.ref A.i) (Str.ofString "owed") (.int x) QH R H :=
  r.put P hc { m with owed := x } (by simp [handNames]) (by with_unfolding_all rfl) (attrs_owed x) rfl rfl h
theorem HandRep.putWaker (P : PCx C K) (hc : HandCls K c) (r : HandRep c H A m) (x : Option Nat) (h : ∀ H', HandRep c H' A { m with waker := x } → (∀ b, b ≠ A.d → H' b = H b) → QH H') : SetAttrW C k (.ref A.i) (Str.ofString "waker") (ov x) QH R H :=
  r.put P hc { m with waker := x } (by simp [handNames]) (by with_unfolding_all rfl) (attrs_waker x) rfl rfl h
theorem HandRep.putHas (P : PCx C K) (hc : HandCls K c) (r : HandRep c H A m) (x : Bool) (h : ∀ H', HandRep c H' A { m with has := x } → (∀ b, b ≠ A.d → H' b = H b) → QH H') : SetAttrW C k (.ref A.i) (Str.ofString "has_asked") (.bool x) QH R H :=
  r.put P hc { m with has := x } (by simp [handNames]) (by with_unfolding_all rfl) (attrs_has x) rfl rfl h
theorem HandRep.putFreed (P : PCx C K) (hc : HandCls K c) (r : HandRep c H A m) (x : Bool) (h : ∀ H', HandRep c H' A { m with freed := x } → (∀ b, b ≠ A.d → H' b = H b) → QH H') : SetAttrW C k (.ref A.i) (Str.ofString "is_freed") (.bool x) QH R H :=
  r.put P hc { m with freed := x } (by simp [handNames]) (by with_unfolding_all rfl) (attrs_freed x) rfl rfl h

theorem HandRep.meth (P : PCx C K) (hc : HandCls K c) (r : HandRep c H A m) {name : Str} {f : Addr} (hm : Rho.of (attrs A m) name = none) (hf : findIn K (.ref c) name = some (some (.ref f))) (ht : typeIn K (.ref f) = some (.type "function")) : MethIs C H (.ref A.i) name (.ref f) :=
  MethIs.own P hc.ok r.i r.d hm hf ht

/-- what a method of a hand leaves -/
def Out (c : Addr) (H : Hp) (A : HA) (p : HandM × List Lt) (Q : V → Hp → Prop) : Prop :=
  ∀ H' x, HandRep c H' A p.1 → H' x = some (.list (p.2.map lv)) → H x = none → HFrame H H' A → Q (.ref x) H'
def HOk (m : HandM) : Prop := m.askers.length ≤ 400 ∧ m.heard.length ≤ 400 ∧ m.others.length ≤ 400

def S_send (c : Addr) : SpecT := fun args Q R H => ∃ (A : HA) (m : HandM) (w : LW) (l : List Nat) (hv : V), args = [.ref A.i, .str w.str, hv] ∧ HandRep c H A m ∧ lview H hv = some (l.map nv) ∧ l.length ≤ 400 ∧ Out c H A (sendM m w l) Q
def S_begin (c : Addr) : SpecT := fun args Q R H => ∃ (A : HA) (m : HandM), args = [.ref A.i] ∧ HandRep c H A m ∧ m.others.length ≤ 400 ∧ Out c H A (beginM m) Q
def S_asked (c : Addr) : SpecT := fun args Q R H => ∃ (A : HA) (m : HandM) (s : Nat), args = [.ref A.i, nv s] ∧ HandRep c H A m ∧ HOk m ∧ Out c H A (askedM m s) Q
def S_told (c : Addr) : SpecT := fun args Q R H => ∃ (A : HA) (m : HandM) (s : Nat), args = [.ref A.i, nv s] ∧ HandRep c H A m ∧ HOk m ∧ Out c H A (toldM m s) Q
def S_come (c : Addr) : SpecT := fun args Q R H => ∃ (A : HA) (m : HandM) (w : LW) (s r : Nat), args = [.ref A.i, lv (w, s, r)] ∧ HandRep c H A m ∧ HOk m ∧ Out c H A (comeM m w s) Q
theorem lview_keep {v : V} {l : List V} {x : Addr} (hv : lview H v = some l) (e : ∀ b, b ≠ x → H' b = H b) (hx : ∀ l, H x ≠ some (.list l)) : lview H' v = some l := by
  cases v with
  | ref a =>
    have : a ≠ x := fun q => by
      subst q
      unfold lview at hv
      dsimp only at hv
      split at hv
      · rename_i l' e'; exact hx _ e'
      · cases hv
    simp only [lview, e a this] at hv ⊢; exact hv
  | _ => exact hv
theorem heardM_cons (l : List Nat) (s : Nat) : (fun x => if x = ((s : Nat) : Int) then some (V.bool true) else heardM l x) = heardM (s :: l) := by
  funext x
  unfold heardM
  by_cases h : x = (s : Int)
  · subst h; simp
  · simp only [h, if_false, List.mem_cons]
    by_cases h0 : 0 ≤ x
    · have : ¬ x.toNat = s := fun q => h (by omega)
      simp [this]
    · simp [h0]
theorem heardM_some (l : List Nat) (n : Nat) : (heardM l ((n : Nat) : Int)).isSome = decide (n ∈ l) := by
  unfold heardM
  by_cases h : n ∈ l
  · simp [h]
  · simp [h]
end Mine

set_option Elab.async false
set_option linter.unusedVariables false
namespace Mine
open PySem PySem.W PyProof.Rows
variable {C : Cx} {k : Nat} {K : Frag} {env : Env} {ρ : Rho} {H H' : Hp} {Q R : V → Hp → Prop} {QH : Hp → Prop} {c : Addr} {A : HA} {m m' : HandM}

theorem gAt {v name} (h : AttrW C k v name Q R H) : AttrW C k v name Q R H := h

theorem str_back (w : LW) : (w.str == Str.ofString "back") = decide (w = .back) := by cases w <;> with_unfolding_all rfl
theorem str_ask (w : LW) : (w.str == Str.ofString "ask") = decide (w = .ask) := by cases w <;> with_unfolding_all rfl
theorem str_freed (w : LW) : (w.str == Str.ofString "freed") = decide (w = .freed) := by cases w <;> with_unfolding_all rfl
theorem word_all (m : HandM) : (m.word == Str.ofString "all") = m.isAll := by
  unfold HandM.word HandM.isAll
  rcases m.wait with _ | ⟨_ | _, l⟩ <;> with_unfolding_all rfl
theorem ov_notCon (o : Option Nat) : (ov o).notCon := by cases o <;> trivial
theorem ov_isNone (o : Option Nat) : (ov o).isNone = o.isNone := by cases o <;> rfl
theorem ov_plain (o : Option Nat) : (ov o).plain = true := by cases o <;> rfl

theorem HandRep.keep {x : Addr} {l : List V} (r : HandRep c H A m) (hx : H x = some (.list l)) (e : ∀ b, b ≠ A.d → H' b = H b) : H' x = some (.list l) := (e x (r.lk hx).1).trans hx
theorem HandRep.frame {x : Addr} {l : List V} (r : HandRep c H A m) (hx : H x = some (.list l)) (hn : x ≠ A.a) (f : HFrame H H' A) : H' x = some (.list l) := f x _ hx (r.lk hx).1 hn (r.lk hx).2.1
theorem HandRep.setHeard (r : HandRep c H A m) (s : Nat) (n : Nat) (hn : n = m.heard.length) : HandRep c (H.set A.h (.dictI (fun x => if x = ((s : Nat) : Int) then some (V.bool true) else heardM m.heard x) (n + 1))) A { m with heard := s :: m.heard } := by
  subst hn
  refine ⟨(Hp.set_ne r.nih).trans r.i, (Hp.set_ne r.ndh).trans r.d, (Hp.set_ne r.nah).trans r.a, ?_⟩
  rw [Hp.set_self, heardM_cons]; rfl
theorem HandRep.setAskers (r : HandRep c H A m) (s : Nat) : HandRep c (H.set A.a (.list (m.askers.map nv ++ [V.int ((s : Nat) : Int)]))) A { m with askers := m.askers ++ [s] } := by
  refine ⟨(Hp.set_ne r.nia).trans r.i, (Hp.set_ne r.nda).trans r.d, ?_, (Hp.set_ne r.nah.symm).trans r.h⟩
  rw [Hp.set_self]; simp [nv]

/- a hand that is being made -/
structure IRep (c : Addr) (H0 H : Hp) (x dd : Addr) (l : List (Str × V)) (n : Nat) : Prop where
  i : H x = some (.inst c dd)
  d : H dd = some (.ns (Rho.of l) n)
  fr : ∀ b o, H0 b = some o → b ≠ dd → H b = some o
theorem IRep.ne {H0 : Hp} {x d l n} (r : IRep c H0 H x d l n) : x ≠ d := Hp.ne' r.i r.d (by simp)
theorem IRep.put (P : PCx C K) (hc : HandCls K c) {H0 : Hp} {x d l n} {name : Str} {u : V} (r : IRep c H0 H x d l n) (hn : name ∈ handNames) (hle : n ≤ 900) (h : ∀ H', IRep c H0 H' x d (putL l name u) (n + 1) → (∀ b, b ≠ d → H' b = H b) → QH H') : SetAttrW C k (.ref x) name u QH R H := by
  refine SetAttrW.new P hc.ok r.i r.d (hc.name hn) hle (h _ ⟨(Hp.set_ne r.ne).trans r.i, Hp.set_self .., fun b o e q => ?_⟩ fun b hb => Hp.set_ne hb)
  rw [Hp.set_ne q]; exact r.fr b o e q
theorem IRep.putOld (P : PCx C K) (hc : HandCls K c) {H0 : Hp} {x d l n} {name : Str} {u : V} (r : IRep c H0 H x d l n) (hn : name ∈ handNames) (hle : n ≤ 900) (hl : (Rho.of l name).isSome = true) (h : ∀ H', IRep c H0 H' x d (putL l name u) n → (∀ b, b ≠ d → H' b = H b) → QH H') : SetAttrW C k (.ref x) name u QH R H := by
  refine SetAttrW.inst P hc.ok r.i r.d (hc.name hn) hle hl (h _ ⟨(Hp.set_ne r.ne).trans r.i, Hp.set_self .., fun b o e q => ?_⟩ fun b hb => Hp.set_ne hb)
  rw [Hp.set_ne q]; exact r.fr b o e q
theorem IRep.fresh {H0 : Hp} {x d l n} {y : Addr} {o : O} (r : IRep c H0 H x d l n) (hy : H y = none) (hy0 : H0 y = none) : IRep c H0 (H.set y o) x d l n :=
  ⟨(Hp.set_ne (Hp.ne r.i hy)).trans r.i, (Hp.set_ne (Hp.ne r.d hy)).trans r.d, fun b ob e q => by rw [Hp.set_ne (Hp.ne e hy0)]; exact r.fr b ob e q⟩
theorem IRep.old {H0 : Hp} {x d l n} {y : Addr} (r : IRep c H0 H x d l n) (hy : H y = none) : H0 y = none := by
  cases e : H0 y with
  | none => rfl
  | some o =>
    by_cases q : y = d
    · subst q; rw [r.d] at hy; cases hy
    · rw [r.fr y o e q] at hy; cases hy

theorem HFrame.none {x : Addr} (r : HandRep c H A m) (r' : HandRep c H' A m') (f : HFrame H H' A) (hx : H' x = none) : H x = none := by
  cases e : H x with
  | none => rfl
  | some o =>
    have n1 : x ≠ A.d := (Hp.ne r'.d hx).symm
    have n2 : x ≠ A.a := (Hp.ne r'.a hx).symm
    have n3 : x ≠ A.h := (Hp.ne r'.h hx).symm
    rw [f x o e n1 n2 n3] at hx; cases hx
end Mine

set_option Elab.async false
set_option linter.unusedVariables false
namespace Mine
open PySem PySem.W PyProof.Rows
variable {C : Cx} {k : Nat} {K : Frag} {env : Env} {ρ : Rho} {H H' : Hp} {Q R : V → Hp → Prop} {QH : Hp → Prop} {c cH cN : Addr} {A : HA} {m m' : HandM}

variable {N : NAd} {As : Nat → HA} {n asker : Nat} {M : NetM}
/- a net that is being made -/
end Mine

set_option Elab.async false
set_option linter.unusedVariables false
namespace Mine
open PySem PySem.W PyProof.Rows
variable {C : Cx} {k : Nat} {K : Frag} {env : Env} {ρ : Rho} {H H' : Hp} {Q R : V → Hp → Prop} {QH : Hp → Prop} {c cH cN : Addr} {A : HA} {m m' : HandM} {As : Nat → HA} {n asker : Nat} {W : List Wt}

theorem map_eraseIdx' {α β : Type} (f : α → β) : ∀ (l : List α) (p : Nat), (l.map f).eraseIdx p = (l.eraseIdx p).map f
  | [], _ => rfl
  | _ :: _, 0 => rfl
  | x :: l, p + 1 => by simp only [List.map_cons, List.eraseIdx_cons_succ, map_eraseIdx' f l p]
end Mine

set_option Elab.async false
set_option linter.unusedVariables false
namespace Mine

/- what the waker becomes -/
theorem end_waker (m fl) : (endM m fl).1.waker = none ∨ ((endM m fl).1.owed ≠ 0 ∧ (endM m fl).1.waker = m.waker) := by
  unfold endM
  split
  · split
    · exact .inl rfl
    · rename_i h; exact .inr ⟨h, rfl⟩
  · rename_i hu; exact .inl hu
theorem end_none {m fl} (hw : m.waker ≠ none) (h : (endM m fl).1.waker = none) : (endM m fl).1.owed = 0 := by
  unfold endM at h ⊢
  split
  · rename_i u hu
    split
    · rename_i h0; exact h0
    · rename_i h0
      simp only [hu, h0, if_false] at h
      exact absurd h (by simp)
  · rename_i hu; exact absurd hu hw
theorem come_waker (m w s) : (comeM m w s).1.waker = none ∨ ((comeM m w s).1.owed ≠ 0 ∧ (comeM m w s).1.waker = (wakeM m w s).1.waker) := by
  have := end_waker (midM (wakeM m w s).1 w s).1 ((wakeM m w s).2 ++ (midM (wakeM m w s).1 w s).2)
  rw [mid_waker] at this
  exact this
theorem come_none (m w s) (hw : (wakeM m w s).1.waker ≠ none) (h : (comeM m w s).1.waker = none) : (comeM m w s).1.owed = 0 :=
  end_none (by rw [mid_waker]; exact hw) h
theorem wake_waker_eq (m w s) : (wakeM m w s).1.waker = if w = .back ∨ (m.asker || m.waker.isSome) = true then m.waker else some s := by
  unfold wakeM
  by_cases hw : w = .back
  · simp [hw]
  · by_cases h : (m.asker || m.waker.isSome) = true
    · simp [hw, h]
    · simp only [hw, h, if_false, false_or]; rfl

/- chains of wakers: the newest one first -/
end Mine

set_option Elab.async false
set_option linter.unusedVariables false
namespace Mine
open PySem PySem.W PyProof.Rows

/- sizes along the turns -/
/- lists of numbers, one for each hand -/
end Mine

set_option Elab.async false
set_option linter.unusedVariables false
namespace Mine

def alf (m : HandM) (x : Nat) : Int := if m.freed = true then 0 else (m.askers.count x : Nat)
def eta (m : HandM) (x : Nat) : Int := (m.heard.count x : Nat)
def gam (m : HandM) (x : Nat) : Int := if m.has = true then (m.others.count x : Nat) else 0
def cT (l : List Lt) (t : Lt) : Int := (l.count t : Nat)
def ind (p : Prop) [Decidable p] : Int := if p then 1 else 0
theorem cT_append (l l' : List Lt) (t : Lt) : cT (l ++ l') t = cT l t + cT l' t := by unfold cT; rw [List.count_append]; omega
theorem cT_nil (t : Lt) : cT [] t = 0 := rfl
theorem cT_one (u t : Lt) : cT [u] t = ind (u = t) := by
  unfold cT ind; simp only [List.count_cons, List.count_nil]
  by_cases h : u = t <;> simp [h]
theorem cT_map (w : LW) (h : Nat) (l : List Nat) (t : Lt) : cT (l.map fun x => (w, h, x)) t = if t.1 = w ∧ t.2.1 = h then (l.count t.2.2 : Nat) else 0 := by
  obtain ⟨w', a, b⟩ := t
  induction l with
  | nil => simp [cT]
  | cons y l ih =>
    rw [List.map_cons, show (w, h, y) :: l.map (fun x => (w, h, x)) = [(w, h, y)] ++ l.map (fun x => (w, h, x)) from rfl, cT_append, cT_one, ih]
    have key : ind ((w, h, y) = (w', a, b)) = if w' = w ∧ a = h then (if y = b then 1 else 0) else 0 := by
      unfold ind; simp only [Prod.mk.injEq]
      by_cases h1 : w' = w
      · by_cases h2 : a = h
        · subst h1; subst h2; simp
        · have : ¬ h = a := fun e => h2 e.symm
          simp [h2, this]
      · have : ¬ w = w' := fun e => h1 e.symm
        simp [h1, this]
    rw [key]
    simp only
    split
    · simp only [List.count_cons]
      by_cases h3 : y = b <;> simp [h3]; omega
    · omega
theorem count_snoc (l : List Nat) (s x : Nat) : ((l ++ [s]).count x : Nat) = l.count x + if s = x then 1 else 0 := by
  rw [List.count_append]; simp only [List.count_cons, List.count_nil]
  by_cases h : s = x <;> simp [h]
theorem count_cons' (l : List Nat) (s x : Nat) : ((s :: l).count x : Nat) = l.count x + if s = x then 1 else 0 := by
  simp only [List.count_cons]
  by_cases h : s = x <;> simp [h]

/-- letters to x that bear on x's asks of this hand; this hand's own asks -/
structure Bal (m m' : HandM) (fl : List Lt) (w : LW) (s : Nat) : Prop where
  f : ∀ x, cT fl (.freed, m.num, x) + alf m' x = alf m x + ind (w = .ask ∧ x = s)
  a : ∀ x, cT fl (.ask, m.num, x) + eta m' x + gam m x = eta m x + ind (w = .freed ∧ x = s) + gam m' x

theorem send_cT (m w l t) : cT (sendM m w l).2 t = if t.1 = w ∧ t.2.1 = m.num then (l.count t.2.2 : Nat) else 0 := cT_map ..
theorem mid_bal2 (m : HandM) (w : LW) (s : Nat) : Bal m (midM m w s).1 (midM m w s).2 w s := by
  have i1 : ∀ x, ind (LW.ask = LW.ask ∧ x = s) = if s = x then 1 else 0 := fun x => by unfold ind; simp [eq_comm]
  have i2 : ∀ x, ind (LW.freed = LW.freed ∧ x = s) = if s = x then 1 else 0 := fun x => by unfold ind; simp [eq_comm]
  have i3 : ∀ x, ind (LW.freed = LW.ask ∧ x = s) = 0 := fun x => by unfold ind; simp
  have i4 : ∀ x, ind (LW.ask = LW.freed ∧ x = s) = 0 := fun x => by unfold ind; simp
  have i5 : ∀ x, ind (LW.back = LW.freed ∧ x = s) = 0 := fun x => by unfold ind; simp
  have i6 : ∀ x, ind (LW.back = LW.ask ∧ x = s) = 0 := fun x => by unfold ind; simp
  cases w
  · show Bal m (askedM m s).1 (askedM m s).2 .ask s
    unfold askedM
    split
    · rename_i hf
      refine ⟨fun x => ?_, fun x => ?_⟩
      · rw [send_cT, i1]; simp only [alf, sendM, hf, if_true, and_self, List.count_cons, List.count_nil]
        by_cases h : s = x <;> simp [h]
      · rw [send_cT, i4]; simp [eta, gam, sendM, HandM.others]
    · rename_i hf
      have hf : m.freed = false := by simpa using hf
      split
      · rename_i hh
        refine ⟨fun x => ?_, fun x => ?_⟩
        · rw [cT_nil, i1]; simp only [alf, hf]; rw [if_neg (by decide), if_neg (by decide), count_snoc]; split <;> omega
        · rw [cT_nil, i4]; simp [eta, gam, HandM.others]
      · rename_i hh
        have hh : m.has = false := by simpa using hh
        unfold beginM
        rw [if_neg (by simp [hf])]
        refine ⟨fun x => ?_, fun x => ?_⟩
        · rw [send_cT, i1]; simp only [alf, sendM, hf]; rw [if_neg (by simp), if_neg (by decide), if_neg (by decide), count_snoc]; split <;> omega
        · rw [send_cT, i4]; simp [eta, gam, sendM, hh, HandM.others]; omega
  · show Bal m (toldM m s).1 (toldM m s).2 .freed s
    unfold toldM
    split
    · rename_i hf
      refine ⟨fun x => ?_, fun x => ?_⟩
      · rw [cT_nil, i3]; simp [alf, hf]
      · rw [cT_nil, i2]; simp only [eta, gam, HandM.others]; rw [count_cons']; split <;> split <;> omega
    · rename_i hf
      have hf : m.freed = false := by simpa using hf
      split
      · refine ⟨fun x => ?_, fun x => ?_⟩
        · rw [cT_nil, i3]; simp [alf, hf]
        · rw [cT_nil, i2]; simp only [eta, gam, HandM.others]; rw [count_cons']; split <;> split <;> omega
      · refine ⟨fun x => ?_, fun x => ?_⟩
        · rw [send_cT, i3]; simp [alf, sendM, hf]
        · rw [send_cT, i2, if_neg (by simp)]
          show 0 + (((s :: m.heard).count x : Nat) : Int) + gam m x = ((m.heard.count x : Nat) : Int) + _ + gam m x
          rw [count_cons']; split <;> omega
  · show Bal m m [] .back s
    exact ⟨fun x => by rw [cT_nil, i6]; omega, fun x => by rw [cT_nil, i5]; omega⟩

structure SameB (m m' : HandM) : Prop where
  freed : m'.freed = m.freed
  askers : m'.askers = m.askers
  heard : m'.heard = m.heard
  has : m'.has = m.has
theorem wake_sameB (m w s) : SameB m (wakeM m w s).1 := by
  unfold wakeM; split
  · exact ⟨rfl, rfl, rfl, rfl⟩
  · split <;> exact ⟨rfl, rfl, rfl, rfl⟩
theorem end_sameB (m fl) : SameB m (endM m fl).1 := by
  unfold endM; split
  · split <;> exact ⟨rfl, rfl, rfl, rfl⟩
  · exact ⟨rfl, rfl, rfl, rfl⟩
theorem cT_wake (m w s) (t : Lt) (ht : t.1 ≠ .back) : cT (wakeM m w s).2 t = 0 := by
  unfold cT
  have : (wakeM m w s).2.count t = 0 := by
    rw [List.count_eq_zero]; intro h
    rw [(wake_out h).1] at ht; exact ht rfl
  rw [this]; rfl
theorem cT_end (m fl) (t : Lt) (ht : t.1 ≠ .back) : cT (endM m fl).2 t = cT fl t := by
  unfold endM
  split
  · rename_i u hu
    split
    · rw [cT_append, cT_one]
      have : ¬ ((LW.back, m.num, u) = t) := fun e => ht (by rw [← e])
      unfold ind; rw [if_neg this]; omega
    · rfl
  · rfl
theorem come_bal2 (m : HandM) (w : LW) (s : Nat) : Bal m (comeM m w s).1 (comeM m w s).2 w s := by
  have b := mid_bal2 (wakeM m w s).1 w s
  have sa := wake_same m w s
  have sb := wake_sameB m w s
  have se := end_sameB (midM (wakeM m w s).1 w s).1 ((wakeM m w s).2 ++ (midM (wakeM m w s).1 w s).2)
  have so := (end_same (midM (wakeM m w s).1 w s).1 ((wakeM m w s).2 ++ (midM (wakeM m w s).1 w s).2)).others
  have oo := sa.others
  have al : ∀ x, alf (wakeM m w s).1 x = alf m x := fun x => by unfold alf; rw [sb.freed, sb.askers]
  have et : ∀ x, eta (wakeM m w s).1 x = eta m x := fun x => by unfold eta; rw [sb.heard]
  have ga : ∀ x, gam (wakeM m w s).1 x = gam m x := fun x => by unfold gam; rw [sb.has, oo]
  have al' : ∀ x, alf (comeM m w s).1 x = alf (midM (wakeM m w s).1 w s).1 x := fun x => by unfold alf comeM; rw [se.freed, se.askers]
  have et' : ∀ x, eta (comeM m w s).1 x = eta (midM (wakeM m w s).1 w s).1 x := fun x => by unfold eta comeM; rw [se.heard]
  have ga' : ∀ x, gam (comeM m w s).1 x = gam (midM (wakeM m w s).1 w s).1 x := fun x => by unfold gam comeM; rw [se.has, so]
  have ct : ∀ t : Lt, t.1 ≠ .back → cT (comeM m w s).2 t = cT (midM (wakeM m w s).1 w s).2 t := fun t ht => by
    unfold comeM; rw [cT_end _ _ _ ht, cT_append, cT_wake _ _ _ _ ht]; omega
  refine ⟨fun x => ?_, fun x => ?_⟩
  · have := b.f x
    rw [sa.num, al x] at this
    rw [ct _ (by simp), al' x]; exact this
  · have := b.a x
    rw [sa.num, et x, ga x] at this
    rw [ct _ (by simp), et' x, ga' x]; exact this

theorem alf_nonneg (m x) : 0 ≤ alf m x := by unfold alf; split <;> omega
theorem eta_nonneg (m x) : 0 ≤ eta m x := by unfold eta; omega
end Mine

set_option Elab.async false
set_option linter.unusedVariables false
namespace Mine
open PySem PySem.W PyProof.Rows
variable {C : Cx} {k : Nat} {K : Frag} {env : Env} {ρ : Rho} {H H' : Hp} {Q R : V → Hp → Prop} {QH : Hp → Prop} {m m' : HandM}

theorem gSub {a b v i} (h : SubW C k a b v i Q R H) : SubW C k a b v i Q R H := h
theorem BinW.addLF {v w : V} {l l' : List V} (hv : lview H v = some l) (hw : lview H w = some l') (hn : l.length + l'.length ≤ 100000) (h : Q (.lst (l ++ l')) H) : BinW C k .Add v w Q R H := fun A a s x y S r1 r2 => by
  refine wpAny_mono (BinW.addL (C := C) (k := k) (Q := fun v H' => ∃ a, v = .ref a ∧ H a = Option.none ∧ H' = H.set a (.list (l ++ l'))) (R := R) hv hw hn (fun a ha => ⟨a, rfl, ha, rfl⟩) A a s x y S r1 r2) ?_ fun _ _ p => p
  rintro x s' ⟨v', H', ⟨b, rfl, hb, rfl⟩, S', r', E'⟩
  obtain ⟨S3, r3⟩ := (fz_new (acc := l ++ l') hb).2 C s' x S' r'
  exact ⟨.lst (l ++ l'), H, h, S3, r3, ⟨E'.keep, fun c o e n => n, E'.live⟩⟩

/- letters as data -/
theorem lv_pure (t : Lt) : (lv t).pure = true := by obtain ⟨w, a, b⟩ := t; rfl
theorem lv_lay (t : Lt) : (lv t).dat.canLay0 = true ∧ (lv t).dat.depth ≤ 5 := by
  obtain ⟨w, a, b⟩ := t
  cases w <;> exact ⟨by simp only [lv, LW.str, nv, V.dat, datL, PyData.canLay0, PyData.canLayAll0]; decide +kernel, by simp only [lv, LW.str, nv, V.dat, datL, PyData.depth, PyData.depthAll]; decide⟩
theorem CmpW.neSelf {v : V} (hp : (see H v).pure = true) (ho : okD (see H v).dat = true) (h : Q (.bool false) H) : CmpW C k .NotEq v v Q R H := by
  refine CmpW.ne hp hp ho ho ?_
  rw [eqv_refl _ (okD_parts ho).1]; exact h

/- the mirror's dicts -/
variable {B : MA}
end Mine

set_option Elab.async false
set_option linter.unusedVariables false
namespace Mine

structure S5 where
  m : HandM
  asked : List Nat
  out : List Nat
  mine : List LW
def backS (st : S5) (h : Nat) : S5 × List Lt := ({ st with mine := st.mine ++ (if h = st.m.num then [.back] else []) }, [(.back, st.m.num, h)])
def sentS (st : S5) (w : LW) (l : List Nat) : S5 × List Lt :=
  ({ st with m := (sendM st.m w l).1, out := st.out ++ l, mine := st.mine ++ (l.filter (fun x => decide (x = st.m.num))).map (fun _ => w) }, (sendM st.m w l).2)
def wakeS (st : S5) (w : LW) (s : Nat) : S5 × List Lt :=
  if w = .back then ({ st with m := { st.m with owed := st.m.owed - 1 }, out := st.out.erase s }, []) else if st.m.asker || st.m.waker.isSome then backS st s else ({ st with m := { st.m with waker := some s } }, [])
def askS (st : S5) (s : Nat) : S5 × List Lt :=
  if st.m.freed = true then sentS { st with asked := st.asked ++ [s] } .freed [s]
  else if st.m.has = true then ({ st with asked := st.asked ++ [s], m := { st.m with askers := st.m.askers ++ [s] } }, [])
  else sentS { st with asked := st.asked ++ [s], m := { st.m with askers := st.m.askers ++ [s], has := true } } .ask st.m.others
def toldS (st : S5) (s : Nat) : S5 × List Lt :=
  if (!st.m.freed && (!st.m.isAll || decide ((s :: st.m.heard).length = st.m.others.length))) = true then sentS { st with m := { st.m with heard := s :: st.m.heard, freed := true } } .freed st.m.askers
  else ({ st with m := { st.m with heard := s :: st.m.heard } }, [])
def midS (st : S5) (w : LW) (s : Nat) : S5 × List Lt := match w with
  | .ask => askS st s
  | .freed => toldS st s
  | .back => (st, [])
def endS (st : S5) (fl : List Lt) : S5 × List Lt := match st.m.waker with
  | some u => if st.m.owed = 0 then ({ (backS st u).1 with m := { st.m with waker := none } }, fl ++ [(.back, st.m.num, u)]) else (st, fl)
  | none => (st, fl)
def comeS (st : S5) (w : LW) (s : Nat) : S5 × List Lt := endS (midS (wakeS st w s).1 w s).1 ((wakeS st w s).2 ++ (midS (wakeS st w s).1 w s).2)

def TOk (m : HandM) (w : LW) (s : Nat) : Prop := w = .freed → m.freed = false → m.isAll = true → (m.others.all fun o => decide (o ∈ s :: m.heard)) = decide ((s :: m.heard).length = m.others.length)
theorem wakeS_m (st w s) : (wakeS st w s).1.m = (wakeM st.m w s).1 ∧ (wakeS st w s).2 = (wakeM st.m w s).2 := by
  unfold wakeS wakeM; split
  · exact ⟨rfl, rfl⟩
  · split <;> exact ⟨rfl, rfl⟩
theorem midS_m (st w s) (h : TOk st.m w s) : (midS st w s).1.m = (midM st.m w s).1 ∧ (midS st w s).2 = (midM st.m w s).2 := by
  cases w
  · show (askS st s).1.m = (askedM st.m s).1 ∧ (askS st s).2 = (askedM st.m s).2
    unfold askS askedM; split
    · exact ⟨rfl, rfl⟩
    · rename_i hf
      split
      · exact ⟨rfl, rfl⟩
      · unfold beginM; rw [if_neg (by exact hf)]; exact ⟨rfl, rfl⟩
  · show (toldS st s).1.m = (toldM st.m s).1 ∧ (toldS st s).2 = (toldM st.m s).2
    unfold toldS toldM
    cases hf : st.m.freed with
    | true => simp [hf]
    | false =>
      cases ha : st.m.isAll with
      | false => simp [sentS, hf]
      | true =>
        have := h rfl hf ha
        simp only [Bool.not_false, Bool.true_and, Bool.not_true, Bool.false_or, Bool.false_eq_true, if_false]
        rw [← this]
        cases (st.m.others.all fun o => decide (o ∈ s :: st.m.heard)) <;> simp [sentS, hf]
  · exact ⟨rfl, rfl⟩
theorem endS_m (st fl) : (endS st fl).1.m = (endM st.m fl).1 ∧ (endS st fl).2 = (endM st.m fl).2 := by
  unfold endS endM
  cases hw : st.m.waker with
  | none => exact ⟨rfl, rfl⟩
  | some u =>
    dsimp only
    split <;> exact ⟨rfl, rfl⟩
theorem wake_TOk {m w s} (h : TOk m w s) : TOk (wakeM m w s).1 w s := by
  intro a b c
  have sb := wake_sameB m w s
  have sa := wake_same m w s
  rw [sb.heard, sa.others]
  refine h a (by rw [← sb.freed]; exact b) ?_
  have : (wakeM m w s).1.isAll = m.isAll := by unfold HandM.isAll; rw [sa.wait]
  rw [← this]; exact c
theorem comeS_m (st w s) (h : TOk st.m w s) : (comeS st w s).1.m = (comeM st.m w s).1 ∧ (comeS st w s).2 = (comeM st.m w s).2 := by
  have a := wakeS_m st w s
  have b := midS_m (wakeS st w s).1 w s (by rw [a.1]; exact wake_TOk h)
  have c := endS_m (midS (wakeS st w s).1 w s).1 ((wakeS st w s).2 ++ (midS (wakeS st w s).1 w s).2)
  unfold comeS comeM
  rw [c.1, c.2, b.1, b.2, a.1, a.2]; exact ⟨rfl, rfl⟩

def cN (l : List Nat) (x : Nat) : Int := (l.count x : Nat)
def cM (l : List LW) (w : LW) : Int := (l.count w : Nat)
theorem cN_append (l l' x) : cN (l ++ l') x = cN l x + cN l' x := by unfold cN; rw [List.count_append]; omega
theorem cM_append (l l' x) : cM (l ++ l') x = cM l x + cM l' x := by unfold cM; rw [List.count_append]; omega
theorem cM_len (l : List LW) : (l.length : Int) = cM l .ask + cM l .freed + cM l .back := by
  induction l with
  | nil => rfl
  | cons w l ih =>
    unfold cM at *
    simp only [List.length_cons, List.count_cons]
    cases w <;> simp <;> omega
/-- what a stage adds -/
structure LRel (st st' : S5) (fl : List Lt) : Prop where
  num : st'.m.num = st.m.num
  oc : ∀ x, cN st'.out x = cN st.out x + cT fl (.ask, st.m.num, x) + cT fl (.freed, st.m.num, x)
  ol : (st'.out.length : Int) = st.out.length + (st'.m.owed - st.m.owed)
  mc : ∀ w, cM st'.mine w = cM st.mine w + cT fl (w, st.m.num, st.m.num)
theorem LRel.refl (st : S5) : LRel st st [] := ⟨rfl, fun x => by rw [cT_nil, cT_nil]; omega, by omega, fun w => by rw [cT_nil]; omega⟩
theorem LRel.trans {a b c : S5} {f g : List Lt} (x : LRel a b f) (y : LRel b c g) : LRel a c (f ++ g) := by
  refine ⟨y.num.trans x.num, fun z => ?_, by have := x.ol; have := y.ol; omega, fun w => ?_⟩
  · have h1 := x.oc z
    have h2 := y.oc z
    rw [x.num] at h2
    rw [cT_append, cT_append]; omega
  · have h1 := x.mc w
    have h2 := y.mc w
    rw [x.num] at h2
    rw [cT_append]; omega
theorem filt_count (l : List Nat) (n : Nat) (w w' : LW) : cM ((l.filter (fun x => decide (x = n))).map (fun _ => w)) w' = if w' = w then (l.count n : Nat) else 0 := by
  induction l with
  | nil => simp [cM]
  | cons y l ih =>
    rw [List.filter_cons]
    by_cases h : y = n
    · subst h
      simp only [decide_true, if_true, List.map_cons]
      rw [show (w :: (l.filter (fun x => decide (x = y))).map (fun _ => w)) = [w] ++ (l.filter (fun x => decide (x = y))).map (fun _ => w) from rfl, cM_append, ih]
      have : cM [w] w' = if w' = w then 1 else 0 := by
        unfold cM; simp only [List.count_cons, List.count_nil]
        by_cases q : w' = w
        · subst q; simp
        · have : ¬ w = w' := fun e => q e.symm
          simp [q, this]
      rw [this]
      by_cases q : w' = w
      · simp [q]; omega
      · simp [q]
    · simp only [h, decide_false, Bool.false_eq_true, if_false, ih]
      by_cases q : w' = w
      · simp [q, h]
      · simp [q]
theorem sentS_rel (st w l) (hw : w ≠ .back) : LRel st (sentS st w l).1 (sentS st w l).2 := by
  refine ⟨rfl, fun x => ?_, ?_, fun w' => ?_⟩
  · show cN (st.out ++ l) x = _
    rw [cN_append]
    show _ = _ + cT (sendM st.m w l).2 _ + cT (sendM st.m w l).2 _
    rw [send_cT, send_cT]
    cases w
    · simp [cN]
    · simp [cN]
    · exact absurd rfl hw
  · show ((st.out ++ l).length : Int) = _ + ((st.m.owed + (l.length : Int)) - st.m.owed)
    rw [List.length_append]; omega
  · show cM (st.mine ++ _) w' = _ + cT (sendM st.m w l).2 _
    rw [cM_append, filt_count, send_cT]
    by_cases q : w' = w <;> simp [q]
theorem backS_rel (st h) : LRel st (backS st h).1 (backS st h).2 := by
  refine ⟨rfl, fun x => ?_, by show (st.out.length : Int) = st.out.length + (st.m.owed - st.m.owed); omega, fun w' => ?_⟩
  · show cN st.out x = _ + cT [_] _ + cT [_] _
    rw [cT_one, cT_one]; simp [ind]
  · show cM (st.mine ++ _) w' = _ + cT [_] _
    rw [cM_append, cT_one]
    unfold ind
    by_cases q : h = st.m.num
    · subst q
      cases w' <;> simp [cM]
    · cases w' <;> simp [q, cM]
theorem midS_rel (st w s) : LRel st (midS st w s).1 (midS st w s).2 := by
  have wr : ∀ {a b : S5} {fl}, LRel a b fl → a.m.num = st.m.num → a.out = st.out → a.mine = st.mine → a.m.owed = st.m.owed → LRel st b fl := by
    intro a b fl r e1 e2 e3 e4
    refine ⟨r.num.trans e1, fun x => ?_, ?_, fun w => ?_⟩
    · have := r.oc x; rw [e1, e2] at this; exact this
    · have := r.ol; rw [e2, e4] at this; exact this
    · have := r.mc w; rw [e1, e3] at this; exact this
  cases w
  · show LRel st (askS st s).1 (askS st s).2
    unfold askS; split
    · exact wr (sentS_rel { st with asked := st.asked ++ [s] } .freed [s] (by simp)) rfl rfl rfl rfl
    · split
      · exact wr (LRel.refl { st with asked := st.asked ++ [s], m := { st.m with askers := st.m.askers ++ [s] } }) rfl rfl rfl rfl
      · exact wr (sentS_rel { st with asked := st.asked ++ [s], m := { st.m with askers := st.m.askers ++ [s], has := true } } .ask st.m.others (by simp)) rfl rfl rfl rfl
  · show LRel st (toldS st s).1 (toldS st s).2
    unfold toldS; split
    · exact wr (sentS_rel { st with m := { st.m with heard := s :: st.m.heard, freed := true } } .freed st.m.askers (by simp)) rfl rfl rfl rfl
    · exact wr (LRel.refl { st with m := { st.m with heard := s :: st.m.heard } }) rfl rfl rfl rfl
  · exact LRel.refl st
theorem endS_rel (st fl) : ∃ g, (endS st fl).2 = fl ++ g ∧ LRel st (endS st fl).1 g := by
  unfold endS; split
  · rename_i u hu
    split
    · refine ⟨[(.back, st.m.num, u)], rfl, ?_⟩
      have := backS_rel st u
      exact ⟨rfl, this.oc, by show (st.out.length : Int) = st.out.length + (st.m.owed - st.m.owed); omega, this.mc⟩
    · exact ⟨[], by simp, LRel.refl st⟩
  · exact ⟨[], by simp, LRel.refl st⟩
def base5 (st : S5) (w : LW) (s : Nat) : S5 := if w = .back then { st with m := { st.m with owed := st.m.owed - 1 }, out := st.out.erase s } else st
theorem wakeS_rel (st w s) : LRel (base5 st w s) (wakeS st w s).1 (wakeS st w s).2 := by
  unfold base5 wakeS; split
  · exact LRel.refl _
  · split
    · exact backS_rel st s
    · exact ⟨rfl, fun x => by rw [cT_nil, cT_nil]; show cN st.out x = cN st.out x + 0 + 0; omega, by show (st.out.length : Int) = st.out.length + (st.m.owed - st.m.owed); omega, fun w => by rw [cT_nil]; show cM st.mine w = cM st.mine w + 0; omega⟩
theorem comeS_rel (st w s) : LRel (base5 st w s) (comeS st w s).1 (comeS st w s).2 := by
  obtain ⟨g, e, r⟩ := endS_rel (midS (wakeS st w s).1 w s).1 ((wakeS st w s).2 ++ (midS (wakeS st w s).1 w s).2)
  have := ((wakeS_rel st w s).trans (midS_rel (wakeS st w s).1 w s)).trans r
  unfold comeS
  rw [e]; exact this

theorem come_heard (m w s) : (comeM m w s).1.heard = if w = .freed then s :: m.heard else m.heard := by
  unfold comeM
  rw [(end_sizes _ _).2.1]
  have h := (wake_sizes m w s).2.1
  cases w
  · show (askedM _ s).1.heard = _
    unfold askedM; split
    · exact h
    · split
      · exact h
      · rw [(begin_sizes _).2.1]; exact h
  · show (toldM _ s).1.heard = _
    unfold toldM; split
    · show s :: _ = _; rw [h]; rfl
    · split
      · show s :: _ = _; rw [h]; rfl
      · show s :: _ = _; rw [h]; rfl
  · exact h
theorem come_freed (m w s) (h : (comeM m w s).1.freed = false) : m.freed = false := by
  unfold comeM at h
  rw [(end_sameB _ _).freed] at h
  rw [← (wake_sameB m w s).freed]
  cases w
  · change (askedM _ s).1.freed = false at h
    unfold askedM at h; split at h
    · exact h
    · rename_i q; simpa using q
  · change (toldM _ s).1.freed = false at h
    unfold toldM at h; split at h
    · exact h
    · rename_i q; simpa using q
  · exact h

structure Inv5 (st : S5) : Prop where
  nd : st.m.others.Nodup
  f1 : st.m.owed = (st.out.length : Int)
  f2 : cN st.out st.m.num = (st.mine.length : Int)
  f3 : st.m.asker = false → st.m.waker = none → st.m.owed = 0
  f4 : st.m.waker ≠ some st.m.num
  t : cM st.mine .ask + alf st.m st.m.num + cM st.mine .freed + eta st.m st.m.num = gam st.m st.m.num
  hd : st.m.heard.Nodup ∧ ∀ x ∈ st.m.heard, x ∈ st.m.others
  fr : st.m.freed = false → st.m.wait ≠ none
structure Pre5 (st : S5) (w : LW) (s : Nat) : Prop where
  I : Inv5 (if s = st.m.num then { st with mine := w :: st.mine } else st)
  b : w = .back → s ∈ st.out
  f : w = .freed → s ∈ st.m.others ∧ s ∉ st.m.heard
theorem sub_len : ∀ (h l : List Nat), h.Nodup → (∀ x ∈ h, x ∈ l) → h.length ≤ l.length
  | [], l, _, _ => Nat.zero_le _
  | x :: h, l, hn, hs => by
    rw [List.nodup_cons] at hn
    have hx := hs x (.head _)
    have := sub_len h (l.erase x) hn.2 fun y hy => by
      have hne : y ≠ x := fun e => hn.1 (by rw [← e]; exact hy)
      exact (List.mem_erase_of_ne hne).mpr (hs y (.tail _ hy))
    rw [List.length_erase_of_mem hx] at this
    have := List.length_pos_of_mem hx
    simp only [List.length_cons]; omega
theorem len_all {l h : List Nat} (hl : l.Nodup) (hh : h.Nodup) (hs : ∀ x ∈ h, x ∈ l) : (l.all fun o => decide (o ∈ h)) = decide (h.length = l.length) := by
  have le := sub_len h l hh hs
  rw [Bool.eq_iff_iff]
  simp only [List.all_eq_true, decide_eq_true_eq]
  constructor
  · intro q
    have := sub_len l h hl q
    omega
  · intro q x hx
    by_cases e : x ∈ h
    · exact e
    · have := sub_len (x :: h) l (List.nodup_cons.mpr ⟨e, hh⟩) fun y hy => by
        cases hy with
        | head => exact hx
        | tail _ hy => exact hs y hy
      simp only [List.length_cons] at this
      omega
theorem Pre5.tok {st w s} (P : Pre5 st w s) : TOk st.m w s := fun hw _ _ => by
  have I := P.I
  obtain ⟨f1, f2⟩ := P.f hw
  have nd : st.m.others.Nodup := by have := I.nd; split at this <;> exact this
  have hd : st.m.heard.Nodup ∧ ∀ x ∈ st.m.heard, x ∈ st.m.others := by have := I.hd; split at this <;> exact this
  refine len_all nd (List.nodup_cons.mpr ⟨f2, hd.1⟩) ?_
  intro x hx
  cases hx with
  | head => exact f1
  | tail _ hx => exact hd.2 x hx
theorem Pre5.come {st w s} (P : Pre5 st w s) : Inv5 (comeS st w s).1 := by
  have I := P.I
  have nd : st.m.others.Nodup := by have := I.nd; split at this <;> exact this
  have f1 : st.m.owed = (st.out.length : Int) := by have := I.f1; split at this <;> exact this
  have f3 : st.m.asker = false → st.m.waker = none → st.m.owed = 0 := by have := I.f3; split at this <;> exact this
  have f4 : st.m.waker ≠ some st.m.num := by have := I.f4; split at this <;> exact this
  have hd : st.m.heard.Nodup ∧ ∀ x ∈ st.m.heard, x ∈ st.m.others := by have := I.hd; split at this <;> exact this
  have fr : st.m.freed = false → st.m.wait ≠ none := by have := I.fr; split at this <;> exact this
  have c1 : ∀ w', cM (w :: st.mine) w' = cM st.mine w' + ind (w' = w) := fun w' => by
    unfold cM ind; simp only [List.count_cons]
    by_cases q : w' = w
    · subst q; simp
    · have : ¬ w = w' := fun e => q e.symm
      simp [q, this]
  have f2 : cN st.out st.m.num = (st.mine.length : Int) + ind (s = st.m.num) := by
    have := I.f2; unfold ind; split at this
    · rename_i q; rw [if_pos q]; simpa using this
    · rename_i q; rw [if_neg q]; simpa using this
  have t : cM st.mine .ask + alf st.m st.m.num + cM st.mine .freed + eta st.m st.m.num + ind (w = .ask ∧ st.m.num = s) + ind (w = .freed ∧ st.m.num = s) = gam st.m st.m.num := by
    have := I.t; split at this
    · rename_i q
      subst q
      have this : cM (w :: st.mine) .ask + alf st.m st.m.num + cM (w :: st.mine) .freed + eta st.m st.m.num = gam st.m st.m.num := this
      rw [c1, c1] at this
      unfold ind at *
      cases w <;> simp at this ⊢ <;> omega
    · rename_i q
      have : ¬ st.m.num = s := fun e => q e.symm
      unfold ind; simp [this]; omega
  have em := comeS_m st w s P.tok
  have R := comeS_rel st w s
  have B := come_bal2 st.m w s
  have sm := come_same st.m w s
  have nb : (base5 st w s).m.num = st.m.num := by unfold base5; split <;> rfl
  have ob : (base5 st w s).mine = st.mine := by unfold base5; split <;> rfl
  have bo : ((base5 st w s).out.length : Int) = (base5 st w s).m.owed := by
    unfold base5; split
    · rename_i hw
      have hs := P.b hw
      show ((st.out.erase s).length : Int) = st.m.owed - 1
      rw [List.length_erase_of_mem hs, f1]
      have : 0 < st.out.length := List.length_pos_of_mem hs
      omega
    · exact f1.symm
  have bc : cN (base5 st w s).out st.m.num = cN st.out st.m.num - ind (w = .back ∧ s = st.m.num) := by
    unfold base5; split
    · rename_i hw
      have hs := P.b hw
      show cN (st.out.erase s) st.m.num = _
      unfold cN ind
      rw [List.count_erase]
      by_cases q : s = st.m.num
      · subst q
        have : 0 < st.out.count st.m.num := List.count_pos_iff.mpr hs
        simp [hw]; omega
      · have q' : ¬ st.m.num = s := fun e => q e.symm
        simp [q, q']
    · rename_i hw
      unfold ind; simp [hw]
  have wk : st.m.asker = false → (wakeM st.m w s).1.waker ≠ none := fun ha => by
    rw [wake_waker_eq, ha]
    split
    · rename_i h
      rcases h with h | h
      · intro e
        have := f3 ha e
        have := List.length_pos_of_mem (P.b h)
        omega
      · simp at h
        intro e; rw [e] at h; cases h
    · simp
  -- back letters to itself
  have back : cT (comeS st w s).2 (.back, st.m.num, st.m.num) = ind (s = st.m.num) - ind (w = .back ∧ s = st.m.num) := by
    rw [em.2]
    unfold comeM
    have e1 : ∀ (m : HandM) fl, m.waker ≠ some st.m.num → m.num = st.m.num → cT (endM m fl).2 (.back, st.m.num, st.m.num) = cT fl (.back, st.m.num, st.m.num) := fun m fl hm hn => by
      unfold endM; split
      · rename_i u hu
        split
        · rw [cT_append, cT_one]
          have : ¬ ((LW.back, m.num, u) = (LW.back, st.m.num, st.m.num)) := fun e => by
            simp only [Prod.mk.injEq] at e
            exact hm (by rw [hu, e.2.2])
          unfold ind; rw [if_neg this]; omega
        · rfl
      · rfl
    have wself : (wakeM st.m w s).1.waker ≠ some st.m.num := by
      rw [wake_waker_eq]
      split
      · exact f4
      · rename_i h
        simp only [not_or, Bool.or_eq_true, Bool.not_eq_true, Option.isSome_eq_false_iff, Option.isNone_iff_eq_none] at h
        intro e
        injection e with e
        have h0 := f3 h.2.1 h.2.2
        have : 0 < cN st.out st.m.num := by rw [f2]; unfold ind; simp [e] <;> omega
        have h2 : (st.out.count st.m.num : Nat) ≤ st.out.length := List.count_le_length
        unfold cN at this
        omega
    rw [e1 _ _ (by rw [mid_waker]; exact wself) (by rw [(mid_same _ w s).num, (wake_same st.m w s).num]), cT_append]
    have e2 : cT (midM (wakeM st.m w s).1 w s).2 (.back, st.m.num, st.m.num) = 0 := by
      unfold cT
      have : (midM (wakeM st.m w s).1 w s).2.count (.back, st.m.num, st.m.num) = 0 := by
        rw [List.count_eq_zero]; intro h; exact (mid_out h).2.1 rfl
      rw [this]; rfl
    rw [e2]
    unfold wakeM
    split
    · rename_i hw
      rw [cT_nil]; unfold ind; simp [hw]
    · rename_i hw
      split
      · rw [cT_one]; unfold ind
        by_cases q : s = st.m.num <;> simp [q, hw]
      · rename_i h
        simp only [Bool.or_eq_true, not_or, Bool.not_eq_true, Option.isSome_eq_false_iff, Option.isNone_iff_eq_none] at h
        rw [cT_nil]
        have h0 := f3 h.1 h.2
        have : s ≠ st.m.num := fun e => by
          have : 0 < cN st.out st.m.num := by rw [f2]; unfold ind; simp [e] <;> omega
          have h2 : (st.out.count st.m.num : Nat) ≤ st.out.length := List.count_le_length
          unfold cN at this
          omega
        unfold ind; simp [this]
  have num' : (comeS st w s).1.m.num = st.m.num := by rw [em.1]; exact sm.num
  refine ⟨by rw [em.1, sm.others]; exact nd, ?_, ?_, fun ha hk => ?_, ?_, ?_, ?_, fun h => ?_⟩
  · have := R.ol; omega
  · have h1 := R.oc st.m.num
    rw [nb] at h1
    have h3 := cM_len (comeS st w s).1.mine
    have h4 := cM_len st.mine
    have ma := R.mc .ask
    have mf := R.mc .freed
    have mb := R.mc .back
    rw [nb, ob] at ma mf mb
    rw [num']
    omega
  · rw [em.1] at ha hk ⊢
    rw [sm.asker] at ha
    exact come_none _ _ _ (wk ha) hk
  · rw [num', em.1]
    rcases come_waker st.m w s with e | ⟨_, e⟩
    · rw [e]; simp
    · rw [e]
      rw [wake_waker_eq]
      split
      · exact f4
      · rename_i h
        simp only [not_or, Bool.or_eq_true, Bool.not_eq_true, Option.isSome_eq_false_iff, Option.isNone_iff_eq_none] at h
        intro e
        injection e with e
        have h0 := f3 h.2.1 h.2.2
        have : 0 < cN st.out st.m.num := by rw [f2]; unfold ind; simp [e] <;> omega
        have h2 : (st.out.count st.m.num : Nat) ≤ st.out.length := List.count_le_length
        unfold cN at this
        omega
  · have ma := R.mc .ask
    have mf := R.mc .freed
    rw [nb, ob] at ma mf
    have bf := B.f st.m.num
    have ba := B.a st.m.num
    rw [← em.2] at bf ba
    rw [num', em.1]
    omega
  · rw [em.1, come_heard, sm.others]
    split
    · rename_i hw
      obtain ⟨a, b⟩ := P.f hw
      refine ⟨List.nodup_cons.mpr ⟨b, hd.1⟩, fun x hx => ?_⟩
      cases hx with
      | head => exact a
      | tail _ hx => exact hd.2 x hx
    · exact hd
  · rw [em.1] at h ⊢
    rw [sm.wait]; exact fr (come_freed _ _ _ h)

/- the letters that may come -/
theorem Inv5.popped {st : S5} (I : Inv5 st) {i : Nat} {w : LW} (h : st.mine[i]? = some w) : Pre5 { st with mine := st.mine.eraseIdx i } w st.m.num := by
  have hm : w ∈ st.mine := List.mem_of_getElem? h
  have pos : 0 < st.mine.length := List.length_pos_of_mem hm
  have er : ∀ (l : List LW) (i : Nat), l[i]? = some w → ∀ x, cM (w :: l.eraseIdx i) x = cM l x := by
    intro l
    induction l with
    | nil => intro i h; simp at h
    | cons y l ih =>
      intro i h x
      cases i with
      | zero => simp at h; subst h; rfl
      | succ i =>
        have h : l[i]? = some w := by simpa using h
        have := ih i h x
        unfold cM at *
        rw [List.eraseIdx_cons_succ]
        simp only [List.count_cons] at this ⊢
        omega
  have ln : (w :: st.mine.eraseIdx i).length = st.mine.length := by
    have hi := (List.getElem?_eq_some_iff.mp h).1
    rw [List.length_cons, List.length_eraseIdx_of_lt hi]; omega
  refine ⟨?_, fun hw => ?_, fun hw => ?_⟩
  · rw [if_pos rfl]
    refine ⟨I.nd, I.f1, ?_, I.f3, I.f4, ?_, I.hd, I.fr⟩
    · show cN st.out st.m.num = ((w :: st.mine.eraseIdx i).length : Int); rw [ln]; exact I.f2
    · show cM (w :: st.mine.eraseIdx i) .ask + _ + cM (w :: st.mine.eraseIdx i) .freed + _ = _
      rw [er _ _ h, er _ _ h]; exact I.t
  · have := I.f2
    have : 0 < st.out.count st.m.num := by unfold cN at this; omega
    exact List.count_pos_iff.mp this
  · have c : 0 < cM st.mine .freed := by
      unfold cM
      have : 0 < st.mine.count .freed := List.count_pos_iff.mpr (hw ▸ hm)
      omega
    have t := I.t
    have a1 := alf_nonneg st.m st.m.num
    have a2 := eta_nonneg st.m st.m.num
    have a3 : 0 ≤ cM st.mine .ask := by unfold cM; omega
    have g : gam st.m st.m.num ≤ 1 := by
      unfold gam; split
      · have := List.nodup_iff_count.mp I.nd st.m.num; omega
      · omega
    have g0 : 0 < gam st.m st.m.num := by omega
    have e0 : eta st.m st.m.num = 0 := by omega
    refine ⟨?_, ?_⟩
    · unfold gam at g0; split at g0
      · have : 0 < st.m.others.count st.m.num := by omega
        exact List.count_pos_iff.mp this
      · omega
    · unfold eta at e0
      have : st.m.heard.count st.m.num = 0 := by omega
      exact List.count_eq_zero.mp this
theorem Inv5.other {st : S5} (I : Inv5 st) {w : LW} {s : Nat} (hs : s ≠ st.m.num) (hb : w = .back → s ∈ st.out) (hf : w = .freed → s ∈ st.m.others ∧ s ∉ st.m.heard) : Pre5 st w s := ⟨by rw [if_neg hs]; exact I, hb, hf⟩
end Mine

set_option Elab.async false
set_option linter.unusedVariables false
namespace Mine

def phi (st : S5) : Nat := st.out.length + (if st.m.has = true then 0 else st.m.others.length) + (if st.m.freed = true then 0 else st.m.askers.length)
theorem wakeS_le (st w s) : phi (wakeS st w s).1 ≤ phi st ∧ (wakeS st w s).1.asked = st.asked ∧ cM (wakeS st w s).1.mine .back ≤ cM st.mine .back + 1 := by
  unfold wakeS backS; split
  · refine ⟨?_, rfl, by show cM st.mine .back ≤ _; omega⟩
    have : (st.out.erase s).length ≤ st.out.length := List.length_erase_le
    show (st.out.erase s).length + (if st.m.has = true then 0 else st.m.others.length) + (if st.m.freed = true then 0 else st.m.askers.length) ≤ st.out.length + (if st.m.has = true then 0 else st.m.others.length) + (if st.m.freed = true then 0 else st.m.askers.length)
    omega
  · split
    · refine ⟨Nat.le_refl _, rfl, ?_⟩
      show cM (st.mine ++ _) .back ≤ _
      rw [cM_append]
      split
      · have : cM [LW.back] .back = 1 := rfl
        omega
      · have : cM [] LW.back = 0 := rfl
        omega
    · exact ⟨Nat.le_refl _, rfl, by show cM st.mine .back ≤ _; omega⟩
theorem midS_le (st w s) : phi (midS st w s).1 ≤ phi st + 1 ∧ (midS st w s).1.asked.length ≤ st.asked.length + 1 ∧ cM (midS st w s).1.mine .back = cM st.mine .back := by
  have fb : ∀ (l : List Nat) (n : Nat) (w : LW), w ≠ .back → cM (st.mine ++ (l.filter (fun x => decide (x = n))).map fun _ => w) .back = cM st.mine .back := fun l n w hw => by
    rw [cM_append, filt_count, if_neg (fun e => hw e.symm)]; omega
  cases w
  · show phi (askS st s).1 ≤ _ ∧ (askS st s).1.asked.length ≤ _ ∧ cM (askS st s).1.mine .back = _
    unfold askS; split
    · rename_i hf
      refine ⟨?_, by simp [sentS], fb [s] _ _ (by simp)⟩
      show (st.out ++ [s]).length + (if st.m.has = true then 0 else st.m.others.length) + (if st.m.freed = true then 0 else st.m.askers.length) ≤ st.out.length + (if st.m.has = true then 0 else st.m.others.length) + (if st.m.freed = true then 0 else st.m.askers.length) + 1
      rw [List.length_append, List.length_singleton]; omega
    · rename_i hf
      split
      · refine ⟨?_, by simp, rfl⟩
        show st.out.length + (if st.m.has = true then 0 else st.m.others.length) + (if st.m.freed = true then 0 else (st.m.askers ++ [s]).length) ≤ st.out.length + (if st.m.has = true then 0 else st.m.others.length) + (if st.m.freed = true then 0 else st.m.askers.length) + 1
        rw [List.length_append, List.length_singleton]
        split <;> omega
      · rename_i hh
        refine ⟨?_, by simp [sentS], fb st.m.others _ _ (by simp)⟩
        show (st.out ++ st.m.others).length + (if true = true then 0 else st.m.others.length) + (if st.m.freed = true then 0 else (st.m.askers ++ [s]).length) ≤ st.out.length + (if st.m.has = true then 0 else st.m.others.length) + (if st.m.freed = true then 0 else st.m.askers.length) + 1
        rw [List.length_append, List.length_append, List.length_singleton, if_pos rfl, if_neg hh]
        split <;> omega
  · show phi (toldS st s).1 ≤ _ ∧ (toldS st s).1.asked.length ≤ _ ∧ cM (toldS st s).1.mine .back = _
    unfold toldS; split
    · rename_i hc
      have hf : st.m.freed = false := by cases q : st.m.freed with | true => rw [q] at hc; cases hc | false => rfl
      refine ⟨?_, by simp [sentS], fb st.m.askers _ _ (by simp)⟩
      show (st.out ++ st.m.askers).length + (if st.m.has = true then 0 else st.m.others.length) + (if true = true then 0 else st.m.askers.length) ≤ st.out.length + (if st.m.has = true then 0 else st.m.others.length) + (if st.m.freed = true then 0 else st.m.askers.length) + 1
      rw [List.length_append, if_pos rfl, if_neg (c := st.m.freed = true) (by rw [hf]; decide)]; omega
    · exact ⟨Nat.le_succ _, Nat.le_succ _, rfl⟩
  · exact ⟨Nat.le_succ _, Nat.le_succ _, rfl⟩
theorem endS_le (st fl) : phi (endS st fl).1 = phi st ∧ (endS st fl).1.asked = st.asked ∧ cM (endS st fl).1.mine .back ≤ cM st.mine .back + 1 := by
  unfold endS; split
  · rename_i u hu
    split
    · refine ⟨rfl, rfl, ?_⟩
      show cM (st.mine ++ _) .back ≤ _
      rw [cM_append]
      split
      · have : cM [LW.back] .back = 1 := rfl
        omega
      · have : cM [] LW.back = 0 := rfl
        omega
    · exact ⟨rfl, rfl, by show cM st.mine .back ≤ _; omega⟩
  · exact ⟨rfl, rfl, by show cM st.mine .back ≤ _; omega⟩
structure Sz5 (t : Nat) (st : S5) : Prop where
  askers : st.m.askers.length ≤ t
  heard : st.m.heard.length ≤ t
  asked : st.asked.length ≤ t
  others : st.m.others.length ≤ 6
  out : phi st ≤ 10 + t
  mine : st.mine.length ≤ 10 + 3 * t
theorem gam_le {m : HandM} (h : m.others.Nodup) (x : Nat) : gam m x ≤ 1 := by
  unfold gam; split
  · have := List.nodup_iff_count.mp h x; omega
  · omega
theorem Sz5.come {t st w s} (S : Sz5 t st) (P : Pre5 st w s) (ht : t ≤ 40) : Sz5 (t + 1) (comeS st w s).1 := by
  have em := comeS_m st w s P.tok
  have cs := come_sizes st.m w s
  have I' := P.come
  have a := wakeS_le st w s
  have b := midS_le (wakeS st w s).1 w s
  have c := endS_le (midS (wakeS st w s).1 w s).1 ((wakeS st w s).2 ++ (midS (wakeS st w s).1 w s).2)
  have wm := (wakeS_m st w s).1
  have e1 : (wakeS st w s).1.m.others.length = st.m.others.length := by rw [wm, (wake_same st.m w s).others]
  have e2 : (wakeS st w s).1.m.askers.length = st.m.askers.length := by rw [wm, (wake_sizes st.m w s).1]
  have s1 := S.askers; have s2 := S.heard; have s3 := S.asked; have s4 := S.others; have s5 := S.out; have s6 := S.mine
  refine ⟨by rw [em.1]; omega, by rw [em.1]; omega, ?_, by rw [em.1, (come_same st.m w s).others]; exact s4, ?_, ?_⟩
  · have := c.2.1
    unfold comeS; rw [this]
    have := b.2.1; rw [a.2.1] at this; omega
  · have := c.1
    unfold comeS; rw [this]
    have := b.1; omega
  · have l1 := cM_len (comeS st w s).1.mine
    have l2 := cM_len st.mine
    have g := gam_le I'.nd (comeS st w s).1.m.num
    have tt := I'.t
    have n1 := alf_nonneg (comeS st w s).1.m (comeS st w s).1.m.num
    have n2 := eta_nonneg (comeS st w s).1.m (comeS st w s).1.m.num
    have n3 : 0 ≤ cM st.mine .ask := by unfold cM; omega
    have n4 : 0 ≤ cM st.mine .freed := by unfold cM; omega
    have bb : cM (comeS st w s).1.mine .back ≤ cM st.mine .back + 2 := by
      have h1 := c.2.2
      have h2 := b.2.2
      have h3 := a.2.2
      show cM (endS _ _).1.mine .back ≤ _
      omega
    omega
theorem Inv5.start (num : Nat) (w : Option (Bool × List Nat)) (b : Bool) (hn : (initM num w b).others.Nodup) : Inv5 ⟨initM num w b, [], [], []⟩ := by
  refine ⟨hn, rfl, rfl, fun _ _ => rfl, by simp [initM], ?_, ⟨List.nodup_nil, fun _ h => nomatch h⟩, ?_⟩
  · show (0 : Int) + alf (initM num w b) num + 0 + eta (initM num w b) num = gam (initM num w b) num
    have : alf (initM num w b) num = 0 := by unfold alf initM; split <;> rfl
    rw [this]; rfl
  · intro h; cases w with
    | none => simp [initM] at h
    | some _ => simp [initM]
theorem Inv5.begin (num : Nat) (w : Option (Bool × List Nat)) (hn : (initM num w true).others.Nodup) (hw : w ≠ none) : Inv5 (sentS ⟨{ initM num w true with has := true }, [], [], []⟩ .ask (initM num w true).others).1 := by
  have sc : ∀ w', cM (([] : List LW) ++ ((initM num w true).others.filter (fun x => decide (x = num))).map fun _ => LW.ask) w' = if w' = .ask then ((initM num w true).others.count num : Nat) else 0 := fun w' => by rw [List.nil_append, filt_count]
  refine ⟨hn, ?_, ?_, fun h => by simp [sentS, sendM, initM] at h, by simp [sentS, sendM, initM], ?_, ⟨List.nodup_nil, fun _ h => nomatch h⟩, fun _ => hw⟩
  · show (0 : Int) + ((initM num w true).others.length : Int) = (([] ++ (initM num w true).others).length : Int)
    simp
  · show cN ([] ++ (initM num w true).others) num = ((([] : List LW) ++ ((initM num w true).others.filter (fun x => decide (x = num))).map fun _ => LW.ask).length : Int)
    rw [cM_len, sc, sc, sc]
    simp [cN]
  · show cM (([] : List LW) ++ ((initM num w true).others.filter (fun x => decide (x = num))).map fun _ => LW.ask) .ask + alf _ num + cM (([] : List LW) ++ ((initM num w true).others.filter (fun x => decide (x = num))).map fun _ => LW.ask) .freed + eta _ num = gam _ num
    rw [sc, sc]
    have a0 : alf (sentS ⟨{ initM num w true with has := true }, [], [], []⟩ .ask (initM num w true).others).1.m num = 0 := by unfold alf; split <;> rfl
    have e0 : eta (sentS ⟨{ initM num w true with has := true }, [], [], []⟩ .ask (initM num w true).others).1.m num = 0 := rfl
    have g0 : gam (sentS ⟨{ initM num w true with has := true }, [], [], []⟩ .ask (initM num w true).others).1.m num = ((initM num w true).others.count num : Nat) := by unfold gam; rw [if_pos (by rfl)]; rfl
    rw [a0, e0, g0]; simp
end Mine

set_option Elab.async false
set_option linter.unusedVariables false
namespace Mine
open PySem PySem.W PyProof.Rows
variable {C : Cx} {k : Nat} {K : Frag} {env : Env} {ρ : Rho} {H H' : Hp} {Q R : V → Hp → Prop} {QH : Hp → Prop} {m m' : HandM}

/- a tuple's end: t[n:] -/
theorem EvalW.sliceT {value lo p pos} (h : EvalW C k env value (fun v H₁ => EvalW C k env lo (fun i H₂ => ∃ (l : List V) (n : Nat), v = .tup l ∧ i = .int ((n : Nat) : Int) ∧ 1 ≤ n ∧ n ≤ l.length ∧ l.length ≤ 100000 ∧ Q (.tup (l.drop n)) H₂) R ρ H₁) R ρ H) :
    EvalW C k env (.Subscript value (.Slice (some lo) Option.none Option.none p) pos) Q R ρ H := fun A a s S => by
  rw [eval_Subscript]
  refine wpAny_bind (wp_go (h A a s S) fun x v H₁ s₁ h₁ S₁ r₁ E₁ => wpAny_bind (wpAny_holding (wpAny_Slice ?_)))
  refine wp_go (h₁ A a s₁ (S.ext S₁ E₁)) (fun y i H₂ s₂ h₂ S₂ r₂ E₂ => ?_) fun _ _ p => p.after E₁
  obtain ⟨l, n, rfl, rfl, hn1, hn2, hz, hQ⟩ := h₂
  refine wpAny_pure (wpAny_pure (wpAny_bind (wpAny_standAt ?_)))
  have r₁' := r₁.ext E₂
  cases r₁' with
  | @tup ad _ xs ha ho rl =>
    cases r₂ with
    | int _ tk =>
      have hzz : xs.size = l.length := by have := rl.length; simpa using this
      have hk : ∀ b o, s₂.heap.get? b = Option.some o → (s₂.heap.push { cls := .type "slice", data := .fields #[.int ((n : Nat) : Int) tk, .none, .none] }).get? b = Option.some o := fun b o e => Heap.get?_push_of_some _ e
      have ht : IsTup s₂.heap ad xs := ha
      have ht' : IsTup (s₂.heap.push { cls := .type "slice", data := .fields #[.int ((n : Nat) : Int) tk, .none, .none] }) ad xs := ht.keeps hk
      have hk2 : ∀ b o, s₂.heap.get? b = Option.some o → ((s₂.heap.push { cls := .type "slice", data := .fields #[.int ((n : Nat) : Int) tk, .none, .none] }).push { cls := .type "tuple", data := .seq (xs.toList.drop n).toArray }).get? b = Option.some o := fun b o e => Heap.get?_push_of_some _ (hk b o e)
      have S3 : Sim C H₂ { s₂ with heap := (s₂.heap.push { cls := .type "slice", data := .fields #[.int ((n : Nat) : Int) tk, .none, .none] }).push { cls := .type "tuple", data := .seq (xs.toList.drop n).toArray } } := S₂.grown hk2 rfl rfl
      have E3 : Ext H₂ s₂.heap H₂ ((s₂.heap.push { cls := .type "slice", data := .fields #[.int ((n : Nat) : Int) tk, .none, .none] }).push { cls := .type "tuple", data := .seq (xs.toList.drop n).toArray }) := Ext.grown hk2
      have fin : wpAny C.M A (operate [.ref s₂.heap.objs.size, .ref ad] (getItem (.ref ad) (.ref s₂.heap.objs.size))) (fun r s₃ => wpAny C.M A (letTemporaryGo value (.ref ad) r >>= fun _ => pure r) (Post C H s.heap VRel Q) (Post C H s.heap VRel R) s₃) (Post C H s.heap VRel R) { s₂ with heap := s₂.heap.push { cls := .type "slice", data := .fields #[.int ((n : Nat) : Int) tk, .none, .none] } } := by
        refine wpAny_operating (getItem_tuple_from (s := { s₂ with heap := s₂.heap.push { cls := .type "slice", data := .fields #[.int ((n : Nat) : Int) tk, .none, .none] } }) ht' (Heap.IsSliceOf.new ..) hn1 (by rw [hzz]; exact hn2) (wpAny_bind (wpAny_letTemporaryGo (wpAny_pure ?_))) (by rw [hzz, sizeLine_eq]; omega))
        refine ⟨.tup (l.drop n), H₂, hQ, S3, ?_, (E₁.trans E₂).trans E3⟩
        refine .tup ⟨_, Heap.get?_push_size _ rfl, rfl, _, rfl⟩ (S₂.fresh (by rw [Heap.size_push]; omega)) ?_
        simpa using (rl.ext E3).drop n
      have tyi : Shared.TypeIs { s₂ with heap := s₂.heap.push { cls := .type "slice", data := .fields #[.int ((n : Nat) : Int) tk, .none, .none] } } (.ref ad) "tuple" := ht'.typeIs
      first
        | (refine wpAny_bind ?_
           rw [getitemInPython_of_ne tyi.not_modules]
           refine wpAny_bind (wpAny_specialOf tyi slot_tuple_getitem.lookup ?_)
           first
             | exact wpAny_pure (wpAny_bind fin)
             | exact wpAny_bind (wpAny_pure (wpAny_bind fin))
             | exact wpAny_bind fin)
        | (refine wpAny_bind (wpAny_specialOf tyi slot_tuple_getitem.lookup ?_)
           first
             | exact wpAny_bind (wpAny_pure (wpAny_bind fin))
             | exact wpAny_bind fin)

/- remove a number -/
theorem erase_eraseIdx : ∀ (l : List Nat) (x : Nat), x ∈ l → ∃ j, ∃ h : j < l.length, l[j] = x ∧ (∀ i (hi : i < l.length), i < j → l[i] ≠ x) ∧ l.erase x = l.eraseIdx j
  | [], x, h => by cases h
  | y :: l, x, h => by
    by_cases q : y = x
    · exact ⟨0, by simp, by simpa using q, fun i hi h0 => absurd h0 (Nat.not_lt_zero _), by subst q; simp⟩
    · have hx : x ∈ l := by cases h with | head => exact absurd rfl q | tail _ h => exact h
      obtain ⟨j, hj, e1, e2, e3⟩ := erase_eraseIdx l x hx
      refine ⟨j + 1, by simp; omega, by simpa using e1, fun i hi h0 => ?_, ?_⟩
      · cases i with
        | zero => simpa using q
        | succ i => simpa using e2 i (by simpa using hi) (by omega)
      · rw [List.erase_cons_tail (by simpa using q), e3, List.eraseIdx_cons_succ]
theorem CallW.remove {a : Addr} {l : List Nat} {x : Nat} (ha : H a = some (.list (l.map nv))) (hx : x ∈ l) (hn : l.length ≤ 50000) (h : Q .none (H.set a (.list ((l.erase x).map nv)))) : CallW C k (.builtin "list.remove") [.ref a, .int ((x : Nat) : Int)] Q R H := fun A lv s xs S r => by
  cases r with
  | cons r1 r' => cases r' with
    | cons r2 r' =>
      cases r'; cases r1
      cases r2 with
      | int _ tk =>
      obtain ⟨xs, ⟨n, ho⟩, rl⟩ := S.objs _ _ ha
      have hz : xs.size = l.length := by have := rl.length; simpa using this
      have hs := sizeLine_eq
      obtain ⟨j, hj, e1, e2, e3⟩ := erase_eraseIdx l x hx
      have intsE : ∀ (l : List Nat) (ys : List Value), VRelL s.heap H (l.map nv) ys → ∀ i (h1 : i < ys.length) (h2 : i < l.length), ∃ t, ys[i] = .int ((l[i] : Nat) : Int) t := by
        intro l
        induction l with
        | nil => intro ys _ i _ h2; exact absurd h2 (Nat.not_lt_zero _)
        | cons z l ih =>
          intro ys r i h1 h2
          cases r with
          | cons rv rl =>
            cases i with
            | zero => cases rv with | int _ t => exact ⟨t, rfl⟩
            | succ i => simpa using ih _ rl i (by simpa using h1) (by simpa using h2)
      have val : ∀ i (hi : i < xs.size), ∃ t, xs[i] = .int ((l[i]'(by omega) : Nat) : Int) t := fun i hi => by
        obtain ⟨t, e⟩ := intsE l xs.toList rl i (by simpa using hi) (by omega)
        exact ⟨t, by simpa using e⟩
      obtain ⟨S', E'⟩ := listUpd (l' := (l.erase x).map nv) (f := fun y => y.eraseIdxIfInBounds j) S ha ho fun h' H' E => by
        have : (xs.eraseIdxIfInBounds j).toList = xs.toList.eraseIdx j := by
          unfold Array.eraseIdxIfInBounds
          have : j < xs.size := by omega
          simp [this]
        rw [this, e3, ← map_eraseIdx']
        exact (rl.extV E).eraseIdx _
      let e : Value → Bool := fun v => match v with | .int i _ => i == ((x : Nat) : Int) | _ => false
      have he : ∀ y, y ∈ xs → MeetsSeq.EqGives y (.int ((x : Nat) : Int) tk) (e y) := fun y hy => by
        obtain ⟨i, hi, rfl⟩ := Array.mem_iff_getElem.mp hy
        obtain ⟨t, q⟩ := val i hi
        rw [q]; exact MeetsSeq.EqGives.int _ _ _ _
      have hit : e (xs[j]'(by omega)) = true := by
        obtain ⟨t, q⟩ := val j (by omega)
        rw [q]; show ((l[j] : Nat) : Int) == _; simp [e1]
      have hno : ∀ i (hi : i < xs.size), i < j → e xs[i] = false := fun i hi hij => by
        obtain ⟨t, q⟩ := val i hi
        have := e2 i (by omega) hij
        rw [q]; show (((l[i]'(by omega) : Nat) : Int) == ((x : Nat) : Int)) = false
        rw [beq_eq_false_iff_ne]; omega
      refine call_meets F.slot_list_remove ⟨_, ho, rfl⟩ F.entry_list_remove (F.args_list_remove_2 _ _) (MeetsSeq.list_remove a xs n (.int ((x : Nat) : Int) tk) e he j (by omega) hit hno (by omega)) ⟨ho, ?_⟩
      exact ⟨.none, _, h, S', .none, E'⟩

/- letters, self-letters -/
theorem lv1_ok (t : Lt) : okD (lv t).dat = true := okD_of (lv_lay t).1 (Nat.le_trans (lv_lay t).2 (by decide))
theorem CmpW.neL1 {t : Lt} (h : Q (.bool false) H) : CmpW C k .NotEq (lv t) (lv t) Q R H := by
  have e : see H (lv t) = lv t := by obtain ⟨w, a, b⟩ := t; rfl
  exact CmpW.neSelf (by rw [e]; exact lv_pure t) (by rw [e]; exact lv1_ok t) h
def mvL (num : Nat) (w : LW) : V := .tup [.str w.str, .int ((num : Nat) : Int)]
theorem mvs_pure (num : Nat) (l : List LW) : pureL (l.map (mvL num)) = true := by
  induction l with
  | nil => rfl
  | cons w W ih => simp only [List.map_cons, pureL, ih, mvL, V.pure]; rfl
theorem mvs_ok (num : Nat) (l : List LW) : okD (.list (datL (l.map (mvL num)))) = true := by
  have h : PyData.canLayAll0 (datL (l.map (mvL num))) = true ∧ PyData.depthAll (datL (l.map (mvL num))) ≤ 5 := by
    induction l with
    | nil => exact ⟨rfl, by simp [datL, PyData.depthAll]⟩
    | cons w W ih =>
      have : (mvL num w).dat.canLay0 = true ∧ (mvL num w).dat.depth ≤ 5 := by
        cases w <;> exact ⟨by simp only [mvL, LW.str, V.dat, datL, PyData.canLay0, PyData.canLayAll0]; decide +kernel, by simp only [mvL, LW.str, V.dat, datL, PyData.depth, PyData.depthAll]; decide⟩
      simp only [List.map_cons, datL, PyData.canLayAll0, PyData.depthAll, this.1, ih.1]
      exact ⟨rfl, by omega⟩
  refine okD_of ?_ ?_
  · simpa only [PyData.canLay0] using h.1
  · simp only [PyData.depth]; omega
theorem CmpW.neM0 {v w : V} {num : Nat} {l : List LW} (hv : lview H v = some (l.map (mvL num))) (hw : lview H w = some []) (h : Q (.bool (!l.isEmpty)) H) : CmpW C k .NotEq v w Q R H := by
  have e1 := see_of hv
  have e2 := see_of hw
  refine CmpW.ne ?_ ?_ ?_ ?_ ?_ <;> simp only [e1, e2, V.pure, V.dat, mvs_pure, pureL]
  · exact mvs_ok num l
  · exact mvs_ok num []
  · have : PyData.eqv (.list (datL (l.map (mvL num)))) (.list (datL [])) = l.isEmpty := by cases l <;> simp [datL, PyData.eqv, PyData.eqvAll]
    rw [this]; exact h

theorem ne_t {x y : Nat} (h : (((x : Nat) : Int) != ((y : Nat) : Int)) = true) : ¬ x = y := by simp at h; omega
theorem ne_f {x y : Nat} (h : (((x : Nat) : Int) != ((y : Nat) : Int)) = false) : x = y := by simp at h; omega
theorem eq_t {x y : Nat} (h : (((x : Nat) : Int) == ((y : Nat) : Int)) = true) : x = y := by simp at h; omega
theorem eq_f {x y : Nat} (h : (((x : Nat) : Int) == ((y : Nat) : Int)) = false) : ¬ x = y := by simp at h; omega
theorem z2 (c : Int) : 0 ≤ c % 2 ∧ c % 2 < 2 ^ 63 := by omega
theorem z2c (c : Int) : c % 2 = 0 ∨ c % 2 = 1 := by omega
theorem pos_t {n : Nat} (h : decide (0 < ((n : Nat) : Int)) = true) : ¬ n = 0 := by simp at h; omega
theorem pos_f {n : Nat} (h : decide (0 < ((n : Nat) : Int)) = false) : n = 0 := by simp at h; omega
theorem pos_d {n : Nat} (h : ¬ n = 0) : decide (0 < ((n : Nat) : Int)) = true := by simp; omega
theorem pos_e {n : Nat} (h : n = 0) : decide (0 < ((n : Nat) : Int)) = false := by simp; omega
theorem n6 {n : Nat} (h : n ≤ 6) : ((n : Nat) : Int) < 2 ^ 62 ∧ -(2 ^ 62) ≤ ((n : Nat) : Int) := by omega
theorem div7 (c : Int) : ∃ n : Nat, (n : Int) = c / 3 % 7 ∧ n ≤ 6 := ⟨(c / 3 % 7).toNat, by omega, by omega⟩
theorem div40 (c : Int) : ∃ n : Nat, (n : Int) = c / 2 % 40 := ⟨(c / 2 % 40).toNat, by omega⟩
theorem step3 (c : Int) : 1 + 2 * (c / 21 % 3) = 1 ∨ 1 + 2 * (c / 21 % 3) = 3 ∨ 1 + 2 * (c / 21 % 3) = 5 := by omega
theorem pick6 (c : Int) {n m : Nat} (h : ¬ n = 0) (hm : m = n) (hn : n ≤ 6) : 0 ≤ c % (n : Int) ∧ (c % (n : Int)).toNat < m ∧ c % (n : Int) < 2 ^ 63 := by
  have h1 := Int.emod_nonneg c (b := (n : Int)) (by omega)
  have h2 := Int.emod_lt_of_pos c (b := (n : Int)) (by omega)
  omega
theorem clip40 (n : Nat) : min (clipAt n 43 - clipAt n 3) (n - clipAt n 3) ≤ 40 := by
  have c3 : clipAt n 3 = min 3 n := by unfold clipAt; rw [if_neg (by decide)]; omega
  have c43 : clipAt n 43 = min 43 n := by unfold clipAt; rw [if_neg (by decide)]; omega
  rw [c3, c43]; omega
theorem Sz5.ok {t : Nat} {st : S5} (S : Sz5 t st) (ht : t ≤ 40) : (st.m.askers.length ≤ 100 ∧ st.m.heard.length ≤ 100 ∧ st.m.others.length ≤ 100 ∧ st.asked.length ≤ 100 ∧ st.out.length ≤ 20000 ∧ st.mine.length ≤ 20000) ∧ st.out.length ≤ 900 ∧ st.mine.length ≤ 400 := by
  obtain ⟨a, b, c, d, e, f⟩ := S
  unfold phi at e
  omega
theorem Sz5.next {t : Nat} {st : S5} (S : Sz5 t st) : Sz5 (t + 1) st := by
  obtain ⟨a, b, c, d, e, f⟩ := S
  exact ⟨by omega, by omega, by omega, d, by omega, by omega⟩
theorem Sz5.like {t : Nat} {st st' : S5} (S : Sz5 t st) (em : st'.m = st.m) (ea : st'.asked = st.asked) (eo : st'.out = st.out) (el : st'.mine.length ≤ st.mine.length) : Sz5 t st' := by
  obtain ⟨a, b, c, d, e, f⟩ := S
  refine ⟨by rw [em]; exact a, by rw [em]; exact b, by rw [ea]; exact c, by rw [em]; exact d, by unfold phi; rw [em, eo]; exact e, Nat.le_trans el f⟩
theorem Sz5.hok {t : Nat} {st : S5} (S : Sz5 t st) (ht : t ≤ 40) : HOk st.m := by
  obtain ⟨a, b, c, d, e, f⟩ := S
  exact ⟨by omega, by omega, by omega⟩
theorem come_fl {t : Nat} {st : S5} (S : Sz5 t st) (ht : t ≤ 40) (w s) : (comeM st.m w s).2.length ≤ 900 := by
  have := (come_sizes st.m w s).2.2
  obtain ⟨a, b, c, d, e, f⟩ := S
  omega

/- the law's own record -/
structure SA where
  d : Addr
  f : Nat → Addr
def sattrs (B : SA) (st : S5) (wd : Str) : List (Str × V) := [(Str.ofString "has", .bool st.m.has), (Str.ofString "askers", .ref (B.f 1)), (Str.ofString "asked", .ref (B.f 2)), (Str.ofString "told", .ref (B.f 3)), (Str.ofString "owed", .int st.m.owed), (Str.ofString "waker", ov st.m.waker),
  (Str.ofString "out", .ref (B.f 4)), (Str.ofString "mine", .ref (B.f 5)), (Str.ofString "number", .int ((st.m.num : Nat) : Int)), (Str.ofString "word", .str wd), (Str.ofString "others", .ref (B.f 0)), (Str.ofString "first", .bool st.m.asker), (Str.ofString "free", .bool st.m.freed)]
def cont (st : S5) : Nat → List V
  | 0 => st.m.others.map nv
  | 1 => st.m.askers.map nv
  | 2 => st.asked.map nv
  | 3 => st.m.heard.reverse.map nv
  | 4 => st.out.map nv
  | _ => st.mine.map (mvL st.m.num)
structure SRep (H : Hp) (B : SA) (wd : Str) (st : S5) : Prop where
  d : H B.d = some (.dictS (Rho.of (sattrs B st wd)) 13)
  l : ∀ i < 6, H (B.f i) = some (.list (cont st i))
  ne : ∀ i j, i < 6 → j < 6 → i ≠ j → B.f i ≠ B.f j
def SFrame (H H' : Hp) (B : SA) : Prop := ∀ b o, H b = some o → b ≠ B.d → (∀ i < 6, b ≠ B.f i) → H' b = some o
variable {B : SA} {st st' : S5} {wd : Str}
theorem SRep.nd (r : SRep H B wd st) {i : Nat} (hi : i < 6) : B.d ≠ B.f i := Hp.ne' r.d (r.l i hi) (by simp)
theorem SRep.le (r : SRep H B wd st) (h : Hp.le H H') : SRep H' B wd st := ⟨h _ _ r.d, fun i hi => h _ _ (r.l i hi), r.ne⟩
theorem SFrame.refl (H : Hp) (B : SA) : SFrame H H B := fun _ _ e _ _ => e
theorem SFrame.trans {H'' : Hp} (x : SFrame H H' B) (y : SFrame H' H'' B) : SFrame H H'' B := fun b o e n1 n2 => y b o (x b o e n1 n2) n1 n2
theorem SFrame.set {x : Addr} {o : O} (h : SFrame H H' B) (hx : H x = none) : SFrame H (H'.set x o) B := fun b ob e n1 n2 => by
  rw [Hp.set_ne (Hp.ne e hx)]; exact h b ob e n1 n2
theorem SFrame.butd (h : SFrame H H' B) {H'' : Hp} (e : ∀ b, b ≠ B.d → H'' b = H' b) : SFrame H H'' B := fun b ob eb n1 n2 => by
  rw [e b n1]; exact h b ob eb n1 n2
theorem SFrame.butl (h : SFrame H H' B) {i : Nat} (hi : i < 6) {o : O} : SFrame H (H'.set (B.f i) o) B := fun b ob eb n1 n2 => by
  rw [Hp.set_ne (n2 i hi)]; exact h b ob eb n1 n2
theorem SFrame.none {x : Addr} (r' : SRep H' B wd st') (f : SFrame H H' B) (hx : H' x = Option.none) : H x = Option.none := by
  cases e : H x with
  | none => rfl
  | some o =>
    rw [f x o e (Hp.ne r'.d hx).symm (fun i hi => (Hp.ne (r'.l i hi) hx).symm)] at hx; cases hx
theorem SRep.set (r : SRep H B wd st) {i : Nat} (hi : i < 6) (st' : S5) (hs : sattrs B st' wd = sattrs B st wd) (hj : ∀ j, j < 6 → j ≠ i → cont st' j = cont st j) : SRep (H.set (B.f i) (.list (cont st' i))) B wd st' := by
  refine ⟨by rw [Hp.set_ne (r.nd hi), hs]; exact r.d, fun j hj' => ?_, r.ne⟩
  by_cases q : j = i
  · subst q; exact Hp.set_self ..
  · rw [Hp.set_ne (r.ne j i hj' hi q), hj j hj' q]; exact r.l j hj'
theorem SRep.put (r : SRep H B wd st) {name : Str} {u : V} (st' : S5) (hl : (Rho.of (sattrs B st wd) name).isSome = true) (e : putL (sattrs B st wd) name u = sattrs B st' wd) (hc : ∀ i, cont st' i = cont st i)
    (h : ∀ H', SRep H' B wd st' → (∀ b, b ≠ B.d → H' b = H b) → QH H') : SetW C k (.ref B.d) (.str name) u QH R H := by
  refine SetW.dictS r.d (by decide) hl ?_
  rw [e]
  refine h _ ⟨Hp.set_self .., fun i hi => ?_, r.ne⟩ fun b hb => Hp.set_ne hb
  rw [Hp.set_ne (r.nd hi).symm, hc]; exact r.l i hi
theorem cont_m (st : S5) (m' : HandM) (h1 : m'.others = st.m.others) (h2 : m'.askers = st.m.askers) (h3 : m'.heard = st.m.heard) (h4 : m'.num = st.m.num) : ∀ i, cont { st with m := m' } i = cont st i := fun i => by
  unfold cont; split <;> simp [h1, h2, h3, h4]
theorem SRep.putOwed (r : SRep H B wd st) (x : Int) (h : ∀ H', SRep H' B wd { st with m := { st.m with owed := x } } → (∀ b, b ≠ B.d → H' b = H b) → QH H') : SetW C k (.ref B.d) (.str (Str.ofString "owed")) (.int x) QH R H :=
  r.put { st with m := { st.m with owed := x } } (by with_unfolding_all rfl) (by with_unfolding_all rfl) (cont_m st { st.m with owed := x } rfl rfl rfl rfl) h
theorem SRep.putWaker (r : SRep H B wd st) (x : Option Nat) (h : ∀ H', SRep H' B wd { st with m := { st.m with waker := x } } → (∀ b, b ≠ B.d → H' b = H b) → QH H') : SetW C k (.ref B.d) (.str (Str.ofString "waker")) (ov x) QH R H :=
  r.put { st with m := { st.m with waker := x } } (by with_unfolding_all rfl) (by with_unfolding_all rfl) (cont_m st { st.m with waker := x } rfl rfl rfl rfl) h
theorem SRep.putHas (r : SRep H B wd st) (x : Bool) (h : ∀ H', SRep H' B wd { st with m := { st.m with has := x } } → (∀ b, b ≠ B.d → H' b = H b) → QH H') : SetW C k (.ref B.d) (.str (Str.ofString "has")) (.bool x) QH R H :=
  r.put { st with m := { st.m with has := x } } (by with_unfolding_all rfl) (by with_unfolding_all rfl) (cont_m st { st.m with has := x } rfl rfl rfl rfl) h
theorem SRep.putFree (r : SRep H B wd st) (x : Bool) (h : ∀ H', SRep H' B wd { st with m := { st.m with freed := x } } → (∀ b, b ≠ B.d → H' b = H b) → QH H') : SetW C k (.ref B.d) (.str (Str.ofString "free")) (.bool x) QH R H :=
  r.put { st with m := { st.m with freed := x } } (by with_unfolding_all rfl) (by with_unfolding_all rfl) (cont_m st { st.m with freed := x } rfl rfl rfl rfl) h

theorem self_list (num : Nat) (w : LW) (l : List Nat) : l.filterMap (fun n => if decide (n = num) = true then some (mvL num w) else none) = ((l.filter (fun x => decide (x = num))).map fun _ => w).map (mvL num) := by
  induction l with
  | nil => rfl
  | cons q l ih =>
    rw [List.filterMap_cons, List.filter_cons]
    by_cases h : q = num
    · simp only [h, decide_true, if_true, List.map_cons]
      rw [ih]
    · simp only [h, decide_false, Bool.false_eq_true, if_false]; exact ih
def SOut (H : Hp) (B : SA) (wd : Str) (p : S5 × List Lt) (Q : V → Hp → Prop) : Prop := ∀ H', SRep H' B wd p.1 → SFrame H H' B → Q (.lst (p.2.map lv)) H'
def SOk (st : S5) : Prop := st.m.askers.length ≤ 100 ∧ st.m.heard.length ≤ 100 ∧ st.m.others.length ≤ 100 ∧ st.asked.length ≤ 100 ∧ st.out.length ≤ 20000 ∧ st.mine.length ≤ 20000
def S_sent5 : SpecT := fun args Q R H => ∃ (B : SA) (wd : Str) (st : S5) (w : LW) (l : List Nat) (x : Addr), args = [.ref B.d, .str w.str, .ref x] ∧ SRep H B wd st ∧ H x = some (.list (l.map nv)) ∧ x ≠ B.f 4 ∧ x ≠ B.f 5 ∧ l.length ≤ 400 ∧ st.out.length ≤ 40000 ∧ st.mine.length ≤ 40000 ∧ SOut H B wd (sentS st w l) Q
def S_sent_back5 : SpecT := fun args Q R H => ∃ (B : SA) (wd : Str) (st : S5) (h : Nat), args = [.ref B.d, .int ((h : Nat) : Int)] ∧ SRep H B wd st ∧ st.mine.length ≤ 900 ∧ SOut H B wd (backS st h) Q
def S_come5 : SpecT := fun args Q R H => ∃ (B : SA) (wd : Str) (st : S5) (w : LW) (s : Nat), args = [.ref B.d, .str w.str, .int ((s : Nat) : Int)] ∧ SRep H B wd st ∧ SOk st ∧ st.mine.length ≤ 400 ∧ (w = .back → s ∈ st.out) ∧ (st.m.freed = false → (wd == Str.ofString "any") = !st.m.isAll) ∧ SOut H B wd (comeS st w s) Q
end Mine

set_option Elab.async false
set_option maxRecDepth 100000
set_option maxHeartbeats 8000000
namespace Mine
open PySem PySem.W PyProof.Rows
noncomputable def K05 (P : Params) : Frag := [
  (2, (Obj.mk Value.none Option.none (Data.dict (List.toArray []) 0) (List.toArray []))),
  (3, (Obj.mk (Value.type "dict") Option.none (Data.dict (List.toArray [(DictEntry.mk (PyData.keyHash P (Str.ofString "__name__")) (Value.str (Str.ofString "__name__") 165) (Value.str (Str.ofString "law_uf060008_05") 268)), (DictEntry.mk (PyData.keyHash P (Str.ofString "__doc__")) (Value.str (Str.ofString "__doc__") 166) Value.none), (DictEntry.mk (PyData.keyHash P (Str.ofString "__package__")) (Value.str (Str.ofString "__package__") 167) Value.none), (DictEntry.mk (PyData.keyHash P (Str.ofString "__loader__")) (Value.str (Str.ofString "__loader__") 168) (Value.builtin "__main__.__loader__#opaque")), (DictEntry.mk (PyData.keyHash P (Str.ofString "__spec__")) (Value.str (Str.ofString "__spec__") 169) Value.none), (DictEntry.mk (PyData.keyHash P (Str.ofString "__annotations__")) (Value.str (Str.ofString "__annotations__") 170) (Value.ref 6)), (DictEntry.mk (PyData.keyHash P (Str.ofString "__builtins__")) (Value.str (Str.ofString "__builtins__") 171) (Value.ref 4)), (DictEntry.mk (PyData.keyHash P (Str.ofString "__file__")) (Value.str (Str.ofString "__file__") 173) (Value.str (Str.ofString "/claim/cut.py") 172)), (DictEntry.mk (PyData.keyHash P (Str.ofString "__cached__")) (Value.str (Str.ofString "__cached__") 174) Value.none), (DictEntry.mk (PyData.keyHash P (Str.ofString "Hand")) (Value.str (Str.ofString "Hand") 267) (Value.ref 62)), (DictEntry.mk (PyData.keyHash P (Str.ofString "_law_cell_at")) (Value.str (Str.ofString "_law_cell_at") 277) (Value.ref 73)), (DictEntry.mk (PyData.keyHash P (Str.ofString "_law_alike")) (Value.str (Str.ofString "_law_alike") 283) (Value.ref 78)), (DictEntry.mk (PyData.keyHash P (Str.ofString "_law_kept")) (Value.str (Str.ofString "_law_kept") 291) (Value.ref 85)), (DictEntry.mk (PyData.keyHash P (Str.ofString "_law_sent")) (Value.str (Str.ofString "_law_sent") 297) (Value.ref 90)), (DictEntry.mk (PyData.keyHash P (Str.ofString "_law_sent_back")) (Value.str (Str.ofString "_law_sent_back") 305) (Value.ref 97)), (DictEntry.mk (PyData.keyHash P (Str.ofString "_law_come")) (Value.str (Str.ofString "_law_come") 315) (Value.ref 104)), (DictEntry.mk (PyData.keyHash P (Str.ofString "_law_letter")) (Value.str (Str.ofString "_law_letter") 321) (Value.ref 109)), (DictEntry.mk (PyData.keyHash P (Str.ofString "law")) (Value.str (Str.ofString "law") 327) (Value.ref 114))]) 18) (List.toArray []))),
  (6, (Obj.mk (Value.type "dict") Option.none (Data.dict (List.toArray []) 0) (List.toArray []))),
  (27, (Obj.mk (Value.type "code") Option.none (Data.fields (List.toArray [(Value.str (Str.ofString "__init__") 201), (Value.str (Str.ofString "Hand.__init__") 202), (Value.str (Str.ofString "/claim/cut.py") 203), (Value.int 4 0), (Value.int 4 0), (Value.int 0 0), (Value.int 0 0), (Value.int 3 0), (Value.ref 22), (Value.bool Bool.true), (Value.int 181 0), (Value.ref 23), Value.none, (Value.ref 24), (Value.ref 25), (Value.ref 26), (Value.int 208 0), (Value.int 4 0), (Value.str (Str.ofString "/claim/cut.py") 209)])) (List.toArray []))),
  (28, fobj (stIn PySem.Challenge.rw_uf060008_05.prog 1 0) (Str.ofString "__init__") (Str.ofString "Hand.__init__") Value.none Value.none Value.none (Value.str (Str.ofString "stuckbell.hand") 187) Option.none (Value.ref 27) Value.none),
  (32, (Obj.mk (Value.type "code") Option.none (Data.fields (List.toArray [(Value.str (Str.ofString "send") 211), (Value.str (Str.ofString "Hand.send") 212), (Value.str (Str.ofString "/claim/cut.py") 213), (Value.int 19 0), (Value.int 3 0), (Value.int 0 0), (Value.int 0 0), (Value.int 3 0), (Value.ref 29), (Value.bool Bool.true), (Value.int 181 0), (Value.ref 30), Value.none, Value.none, Value.none, (Value.ref 31), (Value.int 214 0), (Value.int 19 0), (Value.str (Str.ofString "/claim/cut.py") 215)])) (List.toArray []))),
  (33, fobj (stIn PySem.Challenge.rw_uf060008_05.prog 1 1) (Str.ofString "send") (Str.ofString "Hand.send") Value.none Value.none Value.none (Value.str (Str.ofString "stuckbell.hand") 187) Option.none (Value.ref 32) Value.none),
  (39, (Obj.mk (Value.type "code") Option.none (Data.fields (List.toArray [(Value.str (Str.ofString "begin") 217), (Value.str (Str.ofString "Hand.begin") 218), (Value.str (Str.ofString "/claim/cut.py") 219), (Value.int 23 0), (Value.int 1 0), (Value.int 0 0), (Value.int 0 0), (Value.int 3 0), (Value.ref 34), (Value.bool Bool.true), (Value.int 181 0), (Value.ref 35), Value.none, (Value.ref 36), (Value.ref 37), (Value.ref 38), (Value.int 221 0), (Value.int 23 0), (Value.str (Str.ofString "/claim/cut.py") 222)])) (List.toArray []))),
  (40, fobj (stIn PySem.Challenge.rw_uf060008_05.prog 1 2) (Str.ofString "begin") (Str.ofString "Hand.begin") Value.none Value.none Value.none (Value.str (Str.ofString "stuckbell.hand") 187) Option.none (Value.ref 39) Value.none),
  (46, (Obj.mk (Value.type "code") Option.none (Data.fields (List.toArray [(Value.str (Str.ofString "come") 224), (Value.str (Str.ofString "Hand.come") 225), (Value.str (Str.ofString "/claim/cut.py") 226), (Value.int 29 0), (Value.int 2 0), (Value.int 0 0), (Value.int 0 0), (Value.int 3 0), (Value.ref 41), (Value.bool Bool.true), (Value.int 181 0), (Value.ref 42), Value.none, (Value.ref 43), (Value.ref 44), (Value.ref 45), (Value.int 233 0), (Value.int 29 0), (Value.str (Str.ofString "/claim/cut.py") 234)])) (List.toArray []))),
  (47, fobj (stIn PySem.Challenge.rw_uf060008_05.prog 1 3) (Str.ofString "come") (Str.ofString "Hand.come") Value.none Value.none Value.none (Value.str (Str.ofString "stuckbell.hand") 187) Option.none (Value.ref 46) Value.none),
  (53, (Obj.mk (Value.type "code") Option.none (Data.fields (List.toArray [(Value.str (Str.ofString "asked") 236), (Value.str (Str.ofString "Hand.asked") 237), (Value.str (Str.ofString "/claim/cut.py") 238), (Value.int 47 0), (Value.int 2 0), (Value.int 0 0), (Value.int 0 0), (Value.int 3 0), (Value.ref 48), (Value.bool Bool.true), (Value.int 181 0), (Value.ref 49), Value.none, (Value.ref 50), (Value.ref 51), (Value.ref 52), (Value.int 241 0), (Value.int 47 0), (Value.str (Str.ofString "/claim/cut.py") 242)])) (List.toArray []))),
  (54, fobj (stIn PySem.Challenge.rw_uf060008_05.prog 1 4) (Str.ofString "asked") (Str.ofString "Hand.asked") Value.none Value.none Value.none (Value.str (Str.ofString "stuckbell.hand") 187) Option.none (Value.ref 53) Value.none),
  (58, (Obj.mk (Value.type "code") Option.none (Data.fields (List.toArray [(Value.str (Str.ofString "told") 244), (Value.str (Str.ofString "Hand.told") 245), (Value.str (Str.ofString "/claim/cut.py") 246), (Value.int 55 0), (Value.int 2 0), (Value.int 0 0), (Value.int 0 0), (Value.int 3 0), (Value.ref 55), (Value.bool Bool.true), (Value.int 181 0), (Value.ref 56), Value.none, Value.none, Value.none, (Value.ref 57), (Value.int 247 0), (Value.int 55 0), (Value.str (Str.ofString "/claim/cut.py") 248)])) (List.toArray []))),
  (59, fobj (stIn PySem.Challenge.rw_uf060008_05.prog 1 5) (Str.ofString "told") (Str.ofString "Hand.told") Value.none Value.none Value.none (Value.str (Str.ofString "stuckbell.hand") 187) Option.none (Value.ref 58) Value.none),
  (61, (Obj.mk (Value.type "dict") Option.none (Data.dict (List.toArray [(DictEntry.mk (PyData.keyHash P (Str.ofString "__module__")) (Value.str (Str.ofString "__module__") 196) (Value.str (Str.ofString "stuckbell.hand") 187)), (DictEntry.mk (PyData.keyHash P (Str.ofString "__firstlineno__")) (Value.str (Str.ofString "__firstlineno__") 200) (Value.int 2 199)), (DictEntry.mk (PyData.keyHash P (Str.ofString "__init__")) (Value.str (Str.ofString "__init__") 210) (Value.ref 28)), (DictEntry.mk (PyData.keyHash P (Str.ofString "send")) (Value.str (Str.ofString "send") 216) (Value.ref 33)), (DictEntry.mk (PyData.keyHash P (Str.ofString "begin")) (Value.str (Str.ofString "begin") 223) (Value.ref 40)), (DictEntry.mk (PyData.keyHash P (Str.ofString "come")) (Value.str (Str.ofString "come") 235) (Value.ref 47)), (DictEntry.mk (PyData.keyHash P (Str.ofString "asked")) (Value.str (Str.ofString "asked") 243) (Value.ref 54)), (DictEntry.mk (PyData.keyHash P (Str.ofString "told")) (Value.str (Str.ofString "told") 249) (Value.ref 59)), (DictEntry.mk (PyData.keyHash P (Str.ofString "__static_attributes__")) (Value.str (Str.ofString "__static_attributes__") 260) (Value.ref 60)), (DictEntry.mk (PyData.keyHash P (Str.ofString "__dict__")) (Value.str (Str.ofString "__dict__") 262) (Value.ref 63)), (DictEntry.mk (PyData.keyHash P (Str.ofString "__weakref__")) (Value.str (Str.ofString "__weakref__") 264) (Value.ref 64)), (DictEntry.mk (PyData.keyHash P (Str.ofString "__doc__")) (Value.str (Str.ofString "__doc__") 265) Value.none)]) 4) (List.toArray []))),
  (62, (Obj.mk (Value.type "type") Option.none (Data.cls (ClassData.mk (Str.ofString "Hand") [(Value.type "object")] [(Value.ref 62), (Value.type "object")] 61 (Str.ofString "Hand") Bool.true [] [] Bool.false Option.none Bool.false)) (List.toArray [Option.none, Option.none, (Option.some (Value.str (Str.ofString "Hand") 189)), (Option.some (Value.str (Str.ofString "Hand") 197)), (Option.some (Value.builtin "object.__new__")), (Option.some (Value.bool Bool.true))]))),
  (63, (Obj.mk (Value.type "getset_descriptor") Option.none (Data.fields (List.toArray [(Value.str (Str.ofString "__dict__") 261), (Value.ref 62), (Value.builtin "function.__dict__"), (Value.builtin "function.__dict__#set")])) (List.toArray []))),
  (64, (Obj.mk (Value.type "getset_descriptor") Option.none (Data.fields (List.toArray [(Value.str (Str.ofString "__weakref__") 263), (Value.ref 62), (Value.builtin "ExceptionGroup.__weakref__"), Value.none])) (List.toArray []))),
  (72, (Obj.mk (Value.type "code") Option.none (Data.fields (List.toArray [(Value.str (Str.ofString "_law_cell_at") 270), (Value.str (Str.ofString "_law_cell_at") 271), (Value.str (Str.ofString "/claim/cut.py") 272), (Value.int 64 0), (Value.int 2 0), (Value.int 0 0), (Value.int 0 0), (Value.int 3 0), (Value.ref 67), (Value.bool Bool.true), (Value.int 181 0), (Value.ref 68), Value.none, (Value.ref 69), (Value.ref 70), (Value.ref 71), (Value.int 275 0), (Value.int 64 0), (Value.str (Str.ofString "/claim/cut.py") 276)])) (List.toArray []))),
  (73, fobj (stAt PySem.Challenge.rw_uf060008_05.prog 3) (Str.ofString "_law_cell_at") (Str.ofString "_law_cell_at") Value.none Value.none Value.none (Value.str (Str.ofString "law_uf060008_05") 268) Option.none (Value.ref 72) Value.none),
  (77, (Obj.mk (Value.type "code") Option.none (Data.fields (List.toArray [(Value.str (Str.ofString "_law_alike") 278), (Value.str (Str.ofString "_law_alike") 279), (Value.str (Str.ofString "/claim/cut.py") 280), (Value.int 68 0), (Value.int 2 0), (Value.int 0 0), (Value.int 0 0), (Value.int 3 0), (Value.ref 74), (Value.bool Bool.true), (Value.int 181 0), (Value.ref 75), Value.none, Value.none, Value.none, (Value.ref 76), (Value.int 281 0), (Value.int 68 0), (Value.str (Str.ofString "/claim/cut.py") 282)])) (List.toArray []))),
  (78, fobj (stAt PySem.Challenge.rw_uf060008_05.prog 4) (Str.ofString "_law_alike") (Str.ofString "_law_alike") Value.none Value.none Value.none (Value.str (Str.ofString "law_uf060008_05") 268) Option.none (Value.ref 77) Value.none),
  (84, (Obj.mk (Value.type "code") Option.none (Data.fields (List.toArray [(Value.str (Str.ofString "_law_kept") 284), (Value.str (Str.ofString "_law_kept") 285), (Value.str (Str.ofString "/claim/cut.py") 286), (Value.int 79 0), (Value.int 2 0), (Value.int 0 0), (Value.int 0 0), (Value.int 3 0), (Value.ref 79), (Value.bool Bool.true), (Value.int 181 0), (Value.ref 80), Value.none, (Value.ref 81), (Value.ref 82), (Value.ref 83), (Value.int 289 0), (Value.int 79 0), (Value.str (Str.ofString "/claim/cut.py") 290)])) (List.toArray []))),
  (85, fobj (stAt PySem.Challenge.rw_uf060008_05.prog 5) (Str.ofString "_law_kept") (Str.ofString "_law_kept") Value.none Value.none Value.none (Value.str (Str.ofString "law_uf060008_05") 268) Option.none (Value.ref 84) Value.none),
  (89, (Obj.mk (Value.type "code") Option.none (Data.fields (List.toArray [(Value.str (Str.ofString "_law_sent") 292), (Value.str (Str.ofString "_law_sent") 293), (Value.str (Str.ofString "/claim/cut.py") 294), (Value.int 91 0), (Value.int 3 0), (Value.int 0 0), (Value.int 0 0), (Value.int 3 0), (Value.ref 86), (Value.bool Bool.true), (Value.int 181 0), (Value.ref 87), Value.none, Value.none, Value.none, (Value.ref 88), (Value.int 295 0), (Value.int 91 0), (Value.str (Str.ofString "/claim/cut.py") 296)])) (List.toArray []))),
  (90, fobj (stAt PySem.Challenge.rw_uf060008_05.prog 6) (Str.ofString "_law_sent") (Str.ofString "_law_sent") Value.none Value.none Value.none (Value.str (Str.ofString "law_uf060008_05") 268) Option.none (Value.ref 89) Value.none),
  (96, (Obj.mk (Value.type "code") Option.none (Data.fields (List.toArray [(Value.str (Str.ofString "_law_sent_back") 298), (Value.str (Str.ofString "_law_sent_back") 299), (Value.str (Str.ofString "/claim/cut.py") 300), (Value.int 96 0), (Value.int 2 0), (Value.int 0 0), (Value.int 0 0), (Value.int 3 0), (Value.ref 91), (Value.bool Bool.true), (Value.int 181 0), (Value.ref 92), Value.none, (Value.ref 93), (Value.ref 94), (Value.ref 95), (Value.int 303 0), (Value.int 96 0), (Value.str (Str.ofString "/claim/cut.py") 304)])) (List.toArray []))),
  (97, fobj (stAt PySem.Challenge.rw_uf060008_05.prog 7) (Str.ofString "_law_sent_back") (Str.ofString "_law_sent_back") Value.none Value.none Value.none (Value.str (Str.ofString "law_uf060008_05") 268) Option.none (Value.ref 96) Value.none),
  (103, (Obj.mk (Value.type "code") Option.none (Data.fields (List.toArray [(Value.str (Str.ofString "_law_come") 306), (Value.str (Str.ofString "_law_come") 307), (Value.str (Str.ofString "/claim/cut.py") 308), (Value.int 100 0), (Value.int 3 0), (Value.int 0 0), (Value.int 0 0), (Value.int 3 0), (Value.ref 98), (Value.bool Bool.true), (Value.int 181 0), (Value.ref 99), Value.none, (Value.ref 100), (Value.ref 101), (Value.ref 102), (Value.int 313 0), (Value.int 100 0), (Value.str (Str.ofString "/claim/cut.py") 314)])) (List.toArray []))),
  (104, fobj (stAt PySem.Challenge.rw_uf060008_05.prog 8) (Str.ofString "_law_come") (Str.ofString "_law_come") Value.none Value.none Value.none (Value.str (Str.ofString "law_uf060008_05") 268) Option.none (Value.ref 103) Value.none),
  (108, (Obj.mk (Value.type "code") Option.none (Data.fields (List.toArray [(Value.str (Str.ofString "_law_letter") 316), (Value.str (Str.ofString "_law_letter") 317), (Value.str (Str.ofString "/claim/cut.py") 318), (Value.int 127 0), (Value.int 2 0), (Value.int 0 0), (Value.int 0 0), (Value.int 3 0), (Value.ref 105), (Value.bool Bool.true), (Value.int 181 0), (Value.ref 106), Value.none, Value.none, Value.none, (Value.ref 107), (Value.int 319 0), (Value.int 127 0), (Value.str (Str.ofString "/claim/cut.py") 320)])) (List.toArray []))),
  (109, fobj (stAt PySem.Challenge.rw_uf060008_05.prog 9) (Str.ofString "_law_letter") (Str.ofString "_law_letter") Value.none Value.none Value.none (Value.str (Str.ofString "law_uf060008_05") 268) Option.none (Value.ref 108) Value.none),
  (113, (Obj.mk (Value.type "code") Option.none (Data.fields (List.toArray [(Value.str (Str.ofString "law") 322), (Value.str (Str.ofString "law") 323), (Value.str (Str.ofString "/claim/cut.py") 324), (Value.int 140 0), (Value.int 1 0), (Value.int 0 0), (Value.int 0 0), (Value.int 3 0), (Value.ref 110), (Value.bool Bool.true), (Value.int 181 0), (Value.ref 111), Value.none, Value.none, Value.none, (Value.ref 112), (Value.int 325 0), (Value.int 140 0), (Value.str (Str.ofString "/claim/cut.py") 326)])) (List.toArray []))),
  (114, fobj (stAt PySem.Challenge.rw_uf060008_05.prog 10) (Str.ofString "law") (Str.ofString "law") Value.none Value.none Value.none (Value.str (Str.ofString "law_uf060008_05") 268) Option.none (Value.ref 113) Value.none)]
def loose05 : List Str := [Str.ofString "Hand", Str.ofString "_law_cell_at", Str.ofString "_law_alike", Str.ofString "_law_kept", Str.ofString "_law_sent", Str.ofString "_law_sent_back", Str.ofString "_law_come", Str.ofString "_law_letter"]

def q05 : Program := view PySem.Challenge.rw_uf060008_05.prog [10]
theorem said05 : PySem.Challenge.rw_uf060008_05.wellSaid = true := by kernel_rfl
theorem keys05 (P : Params) : [2, 3, 6, 27, 28, 32, 33, 39, 40, 46, 47, 53, 54, 58, 59, 61, 62, 63, 64, 72, 73, 77, 78, 84, 85, 89, 90, 96, 97, 103, 104, 108, 109, 113, 114] = (K05 P).map (·.1) := by kernel_rfl
noncomputable def hook05 : Hook := kHook K05 [2, 3, 6, 27, 28, 32, 33, 39, 40, 46, 47, 53, 54, 58, 59, 61, 62, 63, 64, 72, 73, 77, 78, 84, 85, 89, 90, 96, 97, 103, 104, 108, 109, 113, 114] keys05
theorem left05 : LeftO PySem.Challenge.rw_uf060008_05.row.prog q05 loose05 (fun s => recOk (RowW.records PySem.Challenge.rw_uf060008_05.row.toRowW) s) (Hook.obs hook05) (Hook.val hook05) 1400 := fun w => by kernel_rfl
theorem ok05 : (chainsOk q05 && opensWell PySem.Challenge.rw_uf060008_05.row.prog && (frees PySem.Challenge.rw_uf060008_05.row.toRowW && PySem.Challenge.rw_uf060008_05.row.within.isEmpty)) = true := by kernel_rfl
end Mine

set_option Elab.async false
set_option linter.unusedVariables false
namespace Mine
open PySem PySem.W PyProof.Rows

theorem ints_rel {h : Heap} {H : Hp} {vals : List Value} {ns : List Int} (hI : IntsAre vals ns) : VRelL h H (ns.map .int) vals := by
  induction hI with
  | nil => exact .nil
  | cons n t _ ih => exact .cons (.int n t) ih

theorem law_glue {prog : Program} {w : World} {s₁ : Shared} {a : Addr} {vals : List Value} {ns : List Int} {f : Value} {S : SpecT} {k : Nat} {c : ClaimW} {cl : Str → Option Addr} {mean : ExcName → Option Value} {args : List WData}
    (low : ∃ o, s₁.heap.get? cStatics = some o) (hg : s₁.gens = #[]) (hL : s₁.heap.IsList a vals.toArray) (hI : IntsAre vals ns)
    (hf : FnOK ⟨prog, w, s₁.heap, s₁.os, true, low⟩ k f S) (hk : k ≤ 20)
    (hS : S [.lst (ns.map .int)] (fun v _ => v = .bool true) (fun _ _ => False) (fun _ => Option.none))
    (hr : ∀ cls, c.raises args cls = false) (hp : c.post args (.bool true) args = true) :
    codeAny (model prog w) callerA (.call f ⟨[.ref a], []⟩) (GoodWG c cl mean args s₁) s₁ := by
  have lv : Lv ⟨prog, w, s₁.heap, s₁.os, true, low⟩ k callerA := by
    refine ⟨fun _ => rfl, ?_, ?_⟩
    · have : callerA.depth + 2 * 20 + 100 < recursionLimit := by decide +kernel
      omega
    · have : callerA.units + 40 * 20 + 100 < cLine := by decide +kernel
      omega
  have sim : Sim ⟨prog, w, s₁.heap, s₁.os, true, low⟩ (fun _ => Option.none) s₁ := ⟨fun _ _ e => e, hg, rfl, fun _ _ e => (nomatch e), fun _ e => absurd rfl e⟩
  refine codeAny_mono (hf callerA lv s₁ (fun _ => Option.none) [.lst (ns.map .int)] [.ref a] _ _ sim (.cons (.lst hL rfl (by simpa using ints_rel hI)) .nil) hS) ?_
  intro r s' p
  rcases r with e | (_ | _ | _ | v)
  · obtain ⟨_, _, q, _⟩ := p; exact q.elim
  · exact p.elim
  · exact p.elim
  · exact p.elim
  · obtain ⟨_, H', rfl, S', rv, E⟩ := p
    cases rv
    exact GoodW.toG ⟨.inl ⟨_, .bool true, [], rfl, hr, .bool true, hp, fun _ => ⟨List.nodup_nil, fun _ h => by cases h⟩⟩, S'.keep, S'.os, S'.gens⟩
end Mine

set_option Elab.async false
set_option maxRecDepth 100000
set_option linter.unusedVariables false
namespace Mine
open PySem PySem.W PyProof.Rows

local macro_rules
  | `(tactic| walk_at "v") => `(tactic| with_reducible first
    | (refine gE ?_; first
      | (refine gName ?_; first
        | refine EvalW.local_ (by with_unfolding_all rfl) ?_ (by with_unfolding_all rfl)
        | refine EvalW.cell (by with_unfolding_all rfl) ?_ (by with_unfolding_all rfl)
        | refine EvalW.free (by with_unfolding_all rfl) ?_ (by with_unfolding_all rfl)
        | refine EvalW.global (PCx.blt (by assumption) (by kernel_rfl) (by boot_fast)) ?_ (by with_unfolding_all rfl))
      | (refine gConst ?_; first
        | refine EvalW.int ?_
        | refine EvalW.none ?_
        | refine EvalW.bool ?_
        | refine EvalW.str ?_)
      | (refine gCall ?_; first
        | refine EvalW.callName (x := Str.ofString "_law_cell_at") (PCx.glob (v := .ref 73) (by assumption) (by kernel_rfl)) (Plainly.ofS (PCx.X (by assumption)) (by with_unfolding_all rfl)) (by with_unfolding_all rfl) ?_ (hp := by with_unfolding_all rfl)
        | refine EvalW.callName (x := Str.ofString "_law_alike") (PCx.glob (v := .ref 78) (by assumption) (by kernel_rfl)) (Plainly.ofS (PCx.X (by assumption)) (by with_unfolding_all rfl)) (by with_unfolding_all rfl) ?_ (hp := by with_unfolding_all rfl)
        | refine EvalW.callName (x := Str.ofString "_law_kept") (PCx.glob (v := .ref 85) (by assumption) (by kernel_rfl)) (Plainly.ofS (PCx.X (by assumption)) (by with_unfolding_all rfl)) (by with_unfolding_all rfl) ?_ (hp := by with_unfolding_all rfl)
        | refine EvalW.callName (x := Str.ofString "_law_sent") (PCx.glob (v := .ref 90) (by assumption) (by kernel_rfl)) (Plainly.ofS (PCx.X (by assumption)) (by with_unfolding_all rfl)) (by with_unfolding_all rfl) ?_ (hp := by with_unfolding_all rfl)
        | refine EvalW.callName (x := Str.ofString "_law_sent_back") (PCx.glob (v := .ref 97) (by assumption) (by kernel_rfl)) (Plainly.ofS (PCx.X (by assumption)) (by with_unfolding_all rfl)) (by with_unfolding_all rfl) ?_ (hp := by with_unfolding_all rfl)
        | refine EvalW.callName (x := Str.ofString "_law_come") (PCx.glob (v := .ref 104) (by assumption) (by kernel_rfl)) (Plainly.ofS (PCx.X (by assumption)) (by with_unfolding_all rfl)) (by with_unfolding_all rfl) ?_ (hp := by with_unfolding_all rfl)
        | refine EvalW.callName (x := Str.ofString "_law_letter") (PCx.glob (v := .ref 109) (by assumption) (by kernel_rfl)) (Plainly.ofS (PCx.X (by assumption)) (by with_unfolding_all rfl)) (by with_unfolding_all rfl) ?_ (hp := by with_unfolding_all rfl)
        | refine EvalW.callName (x := Str.ofString "Hand") (PCx.glob (v := .ref 62) (by assumption) (by kernel_rfl)) (Plainly.cls (by assumption) (by kernel_rfl)) (by with_unfolding_all rfl) ?_ (hp := by with_unfolding_all rfl)
        | refine EvalW.callName (PCx.blt (by assumption) (by kernel_rfl) (by boot_fast)) (by first | exact Plainly.builtin _ | exact Plainly.type _) (by with_unfolding_all rfl) ?_ (hp := by with_unfolding_all rfl)
        | refine EvalW.method ?_ (by with_unfolding_all rfl) (by with_unfolding_all rfl))
      | refine EvalW.sub ?_
      | refine EvalW.attr ?_
      | refine EvalW.binop ?_
      | refine EvalW.compare ?_
      | refine EvalW.not ?_
      | refine EvalW.and ?_
      | refine EvalW.or ?_
      | refine EvalW.and_one ?_
      | refine EvalW.tuple ?_)
    | (refine gA ?_; first
      | refine ArgsW.cons ?_ (by with_unfolding_all rfl)
      | refine ArgsW.nil ?_)
    | (refine gB ?_; first
      | refine BinW.add ?_
      | refine BinW.mul (by first | exact IntMulOk.of_right (by decide) | exact IntMulOk.of_left (by decide)) ?_
      | refine BinW.mod (by first | decide | omega) ?_
      | refine BinW.floordiv (by first | decide | omega) (by first | decide | omega) ?_
      | refine BinW.sub ?_)
    | (refine gC ?_; first
      | refine CmpW.lt ?_
      | refine CmpW.gt ?_
      | refine CmpW.eqI ?_
      | refine CmpW.neI ?_
      | refine CmpW.eqS ?_
      | refine CmpW.neS ?_)
    | (refine gAt ?_; refine HandRep.get (by assumption) (by assumption) (by assumption) (by with_unfolding_all decide) (by with_unfolding_all rfl) (by first | with_unfolding_all rfl | exact ov_plain _) ?_)
    | (refine gSub ?_; refine SubW.dictS (by assumption) (by with_unfolding_all rfl) ?_ (by intros; with_unfolding_all rfl))
    | refine TruthW.bool ?_
    | (refine gT ?_; first
      | refine TestW.compare ?_
      | refine TestW.not ?_
      | refine TestW.and ?_
      | refine TestW.or ?_
      | refine TestW.and_nil ?_
      | refine TestW.or_nil ?_
      | refine TestW.plain ?_ (by intro; with_unfolding_all rfl))
    | (refine gX ?_; first
      | refine ExecsW.cons ?_
      | refine ExecsW.nil ?_)
    | refine Cont.next ?_
    | refine Cont.ret ?_
    | (refine gS ?_; first
      | refine ExecW.if_ ?_
      | refine ExecW.ret ?_
      | refine ExecW.assign (Storable.l (by with_unfolding_all rfl)) ?_ (by with_unfolding_all rfl)
      | refine ExecW.assign (Storable.c (by with_unfolding_all rfl) (by with_unfolding_all rfl)) ?_ (by with_unfolding_all rfl)
      | refine ExecW.assign_sub ?_ (by with_unfolding_all rfl)
      | refine ExecW.assign_attr ?_ (by with_unfolding_all rfl)
      | refine ExecW.expr ?_ (by with_unfolding_all rfl) (by with_unfolding_all rfl)))
  | `(tactic| walk_at "w") => `(tactic| repeat walk_at "v")
noncomputable abbrev K5 (C : Cx) : Frag := K05 C.w.params
variable {C : Cx}
def WView (H : Hp) (wV : V) : Wt → Prop
  | none => wV = .none
  | some (b, l) => ∃ hv, wV = .tup [.str (Str.ofString (if b = true then "all" else "any")), hv] ∧ lview H hv = some (l.map nv)
def S_init2 (c : Addr) : SpecT := fun args Q R H => ∃ (x d : Addr) (num : Nat) (w : Wt) (b : Bool) (wV : V), args = [.ref x, nv num, wV, .bool b] ∧ WView H wV w ∧ H x = some (.inst c d) ∧ H d = some (.ns (Rho.of []) 0) ∧ (initM num w b).others.length ≤ 400 ∧
  ∀ H' A, A.i = x → A.d = d → HandRep c H' A (initM num w b) → H A.a = none → H A.h = none → (∀ b o, H b = some o → b ≠ d → H' b = some o) → Q .none H'
set_option maxHeartbeats 4000000 in
theorem cell_ok (P : PCx C (K5 C)) (k : Nat) : FnOK C (k + 1) (.ref 73) S_cell := by
  refine FnOK.ofS (K := K5 C) [Str.ofString "_law_script", Str.ofString "_law_k"] P.X P.lim rfl rfl (by kernel_rfl) ?_ (by kernel_rfl) (by kernel_rfl) ?_
  · intro vals h
    rcases vals with _ | ⟨a, _ | ⟨b, _ | ⟨c, t⟩⟩⟩ <;> simp at h
    rfl
  · rintro args Q R H ⟨ns, i, rfl, hi, hn, hQ⟩
    refine ⟨rfl, fun L => ?_⟩
    walk_at "w"
    refine CallW.len rfl (by simp; omega) ?_
    walk_at "w"
    refine ite_w (fun h => ?_) fun h => ?_
    · simp at h
      walk_at "w"
      refine SubW.list (l := ns.map .int) rfl hi (by omega) (u := .int (cellV ns i)) ?_ ?_
      · have : i.toNat < ns.length := by omega
        simp [cellV, this]
      · exact ⟨_, _, Fz.refl, hQ⟩
    · simp at h
      walk_at "w"
      refine ⟨_, _, Fz.refl, ?_⟩
      have : cellV ns i = 0 := by simp [cellV]; rw [List.getElem?_eq_none (by omega)]; rfl
      rw [this] at hQ; exact hQ

theorem handC (C : Cx) : HandCls (K5 C) 62 := ⟨⟨by kernel_rfl, by kernel_rfl, by kernel_rfl, by kernel_rfl, by kernel_rfl⟩, by kernel_rfl⟩

set_option maxHeartbeats 4000000 in
theorem send_ok (P : PCx C (K5 C)) (k : Nat) : FnOK C (k + 1) (.ref 33) (S_send 62) := by
  have hc := handC C
  refine FnOK.ofS (K := K5 C) [Str.ofString "self", Str.ofString "word", Str.ofString "hands"] P.X P.lim rfl rfl (by kernel_rfl) ?_ (by kernel_rfl) (by kernel_rfl) ?_
  · intro vals h
    rcases vals with _ | ⟨a, _ | ⟨b, _ | ⟨c, _ | ⟨d, t⟩⟩⟩⟩ <;> simp at h
    rfl
  · rintro args Q R H ⟨A, m, w, l, hv, rfl, Rp, hl, hn, hQ⟩
    refine ⟨rfl, fun L => ?_⟩
    walk_at "w"
    refine CallW.len hl (by simp; omega) ?_
    walk_at "w"
    refine Rp.putOwed P hc _ fun H1 Rp1 e1 => ?_
    have hl1 : lview H1 hv = some (l.map nv) := lview_keep hl e1 (fun l q => by rw [Rp.d] at q; cases q)
    have hn1 : ∀ x, H1 x = none → H x = none := fun x hx => by rw [← e1 x (Hp.ne Rp1.d hx).symm]; exact hx
    have f1 : HFrame H H1 A := (HFrame.refl H A).but e1 (.inl rfl)
    walk_at "w"
    refine EvalW.compO (gN fun n => some (lv (w, m.num, n))) rfl P.hd rfl ?_
    refine IterE.list ?_
    walk_at "w"
    refine ⟨_, hl1, by simp; omega, fun _ hle => lcond_le hl1 hle, ?_, fun x hx => ?_⟩
    · intro v hv H' hle
      obtain ⟨y, hy, rfl⟩ := List.mem_map.mp hv
      have Rp2 := Rp1.le hle
      refine PureStep.map rfl fun L' => ?_
      simp only [nv]
      walk_at "w"
      exact ⟨⟨rfl, by rw [gN_nv]; rfl⟩, by simp⟩
    rw [fm_gN, fm_map]
    walk_at "w"
    refine RetQ.here (hQ _ x ?_ ?_ (hn1 x hx) (f1.set (hn1 x hx)))
    · have := Rp1.fresh (o := .list (l.map fun n => lv (w, m.num, n))) hx
      simpa [sendM] using this
    · rw [Hp.set_self]; simp [sendM, Function.comp_def]

set_option maxHeartbeats 4000000 in
theorem begin_ok (P : PCx C (K5 C)) (k : Nat) : FnOK C (k + 2) (.ref 40) (S_begin 62) := by
  have hc := handC C
  refine FnOK.ofS (K := K5 C) [Str.ofString "self"] P.X P.lim rfl rfl (by kernel_rfl) ?_ (by kernel_rfl) (by kernel_rfl) ?_
  · intro vals h
    rcases vals with _ | ⟨a, _ | ⟨b, t⟩⟩ <;> simp at h
    rfl
  · rintro args Q R H ⟨A, m, rfl, Rp, hn, hQ⟩
    refine ⟨rfl, fun L => ?_⟩
    walk_at "w"
    refine ite_w (fun h => ?_) fun h => ?_
    · walk_at "w"
      refine EvalW.list ?_
      walk_at "w"
      refine ⟨by simp, fun x hx => ?_⟩
      walk_at "w"
      refine RetQ.here (hQ _ x ?_ ?_ hx ((HFrame.refl H A).set hx))
      · have := Rp.fresh (o := .list []) hx
        simpa [beginM, h] using this
      · rw [Hp.set_self]; simp [beginM, h]
    · walk_at "w"
      refine Rp.putHas P hc true fun H1 Rp1 e1 => ?_
      have hn1 : ∀ x, H1 x = none → H x = none := fun x hx => by rw [← e1 x (Hp.ne Rp1.d hx).symm]; exact hx
      have f1 : HFrame H H1 A := (HFrame.refl H A).but e1 (.inl rfl)
      walk_at "w"
      refine ⟨_, Rp1.meth P hc (f := 33) (by with_unfolding_all rfl) (by kernel_rfl) (by kernel_rfl), Plainly.ofS P.X rfl, ?_⟩
      walk_at "w"
      refine (send_ok P _).call ⟨A, _, .ask, m.others, _, rfl, Rp1, rfl, hn, ?_⟩
      intro H' x r2 e2 n2 f2
      walk_at "w"
      refine RetQ.here (hQ _ x ?_ ?_ (hn1 x n2) (f1.trans f2))
      · simpa [beginM, h, HandM.others] using r2
      · simpa [beginM, h, HandM.others] using e2

set_option maxHeartbeats 4000000 in
theorem asked_ok (P : PCx C (K5 C)) (k : Nat) : FnOK C (k + 3) (.ref 54) (S_asked 62) := by
  have hc := handC C
  refine FnOK.ofS (K := K5 C) [Str.ofString "self", Str.ofString "sender"] P.X P.lim rfl rfl (by kernel_rfl) ?_ (by kernel_rfl) (by kernel_rfl) ?_
  · intro vals h
    rcases vals with _ | ⟨a, _ | ⟨b, _ | ⟨c, t⟩⟩⟩ <;> simp at h
    rfl
  · rintro args Q R H ⟨A, m, s, rfl, Rp, ⟨ho1, ho2, ho3⟩, hQ⟩
    refine ⟨rfl, fun L => ?_⟩
    simp only [nv]
    walk_at "w"
    refine ite_w (fun h => ?_) fun h => ?_
    · walk_at "w"
      refine ⟨_, Rp.meth P hc (f := 33) (by with_unfolding_all rfl) (by kernel_rfl) (by kernel_rfl), Plainly.ofS P.X rfl, ?_⟩
      walk_at "w"
      refine EvalW.list_fz ?_
      walk_at "w"
      refine ⟨by simp, ?_⟩
      walk_at "w"
      refine (send_ok P _).call ⟨A, _, .freed, [s], _, rfl, Rp, rfl, by simp, ?_⟩
      intro H' x r2 e2 n2 f2
      walk_at "w"
      refine RetQ.here (hQ _ x ?_ ?_ n2 f2)
      · simpa [askedM, h] using r2
      · simpa [askedM, h] using e2
    · walk_at "w"
      refine ⟨_, MethIs.append Rp.a, Plainly.builtin _, ?_⟩
      walk_at "w"
      refine CallW.append Rp.a (by simp; omega) ?_
      have Rp1 := Rp.setAskers s
      have f1 : HFrame H (H.set A.a (.list (m.askers.map nv ++ [V.int ((s : Nat) : Int)]))) A := (HFrame.refl H A).but (fun b hb => Hp.set_ne hb) (.inr (.inl rfl))
      generalize H.set A.a (.list (m.askers.map nv ++ [V.int ((s : Nat) : Int)])) = H1 at Rp1 f1
      have hn1 : ∀ x, H1 x = none → H x = none := fun x hx => f1.none Rp Rp1 hx
      walk_at "w"
      refine ite_w (fun h2 => ?_) fun h2 => ?_
      · walk_at "w"
        refine EvalW.list ?_
        walk_at "w"
        refine ⟨by simp, fun x hx => ?_⟩
        walk_at "w"
        have e9 : askedM m s = ({ m with askers := m.askers ++ [s] }, []) := by unfold askedM; rw [if_neg (by rw [h]; decide), if_pos h2]
        refine RetQ.here (hQ _ x ?_ ?_ (hn1 x hx) (f1.set (hn1 x hx)))
        · rw [e9]; exact Rp1.fresh (o := .list []) hx
        · rw [e9, Hp.set_self]; rfl
      · walk_at "w"
        refine ⟨_, Rp1.meth P hc (f := 40) (by with_unfolding_all rfl) (by kernel_rfl) (by kernel_rfl), Plainly.ofS P.X rfl, ?_⟩
        walk_at "w"
        refine (begin_ok P _).call ⟨A, _, rfl, Rp1, ho3, ?_⟩
        intro H' x r2 e2 n2 f2
        walk_at "w"
        have h2' : m.has = false := h2
        have e9 : askedM m s = beginM { m with askers := m.askers ++ [s] } := by unfold askedM; rw [if_neg (by rw [h]; decide), if_neg (by rw [h2']; decide)]
        refine RetQ.here (hQ _ x ?_ ?_ (hn1 x n2) (f1.trans f2))
        · rw [e9]; exact r2
        · rw [e9]; exact e2

set_option maxHeartbeats 4000000 in
theorem told_ok (P : PCx C (K5 C)) (k : Nat) : FnOK C (k + 2) (.ref 59) (S_told 62) := by
  have hc := handC C
  refine FnOK.ofS (K := K5 C) [Str.ofString "self", Str.ofString "sender"] P.X P.lim rfl rfl (by kernel_rfl) ?_ (by kernel_rfl) (by kernel_rfl) ?_
  · intro vals h
    rcases vals with _ | ⟨a, _ | ⟨b, _ | ⟨c, t⟩⟩⟩ <;> simp at h
    rfl
  · rintro args Q R H ⟨A, m, s, rfl, Rp, ⟨ho1, ho2, ho3⟩, hQ⟩
    refine ⟨rfl, fun L => ?_⟩
    simp only [nv]
    walk_at "w"
    refine SetW.dictI Rp.h (by omega) ?_
    have Rp1 := Rp.setHeard s m.heard.length rfl
    have f1 : HFrame H (H.set A.h (.dictI (fun x => if x = ((s : Nat) : Int) then some (V.bool true) else heardM m.heard x) (m.heard.length + 1))) A := (HFrame.refl H A).but (fun b hb => Hp.set_ne hb) (.inr (.inr rfl))
    generalize H.set A.h (.dictI (fun x => if x = ((s : Nat) : Int) then some (V.bool true) else heardM m.heard x) (m.heard.length + 1)) = H1 at Rp1 f1
    have hn1 : ∀ x, H1 x = none → H x = none := fun x hx => f1.none Rp Rp1 hx
    walk_at "w"
    refine ite_w (fun h => ?_) fun h => ?_
    · walk_at "w"
      refine EvalW.list ?_
      walk_at "w"
      refine ⟨by simp, fun x hx => ?_⟩
      walk_at "w"
      refine RetQ.here (hQ _ x ?_ ?_ (hn1 x hx) (f1.set (hn1 x hx)))
      · have := Rp1.fresh (o := .list []) hx
        have h' : m.freed = true := h
        simpa [toldM, h'] using this
      · have h' : m.freed = true := h
        rw [Hp.set_self]; simp [toldM, h']
    · have h' : m.freed = false := h
      refine ExecsW.nil (Cont.next (ExecsW.seq (fun l H' => H' = H1 ∧ (m.isAll && !(m.others.all fun o => decide (o ∈ s :: m.heard))) = false ∧ l = [(Str.ofString "self", V.ref A.i), (Str.ofString "sender", V.int ((s : Nat) : Int))]) ?_ ?_))
      · walk_at "w"
        rw [show HandM.word { m with heard := s :: m.heard } = m.word from rfl, word_all]
        refine ite_w (fun h1 => ?_) fun h1 => ?_
        · walk_at "w"
          refine EvalW.compP (gN fun n => some (.bool (decide (n ∈ s :: m.heard)))) rfl P.hd rfl ?_
          refine IterE.list ?_
          walk_at "w"
          refine ⟨_, rfl, by simpa [HandM.others] using Nat.le_trans ho3 (by decide), fun _ _ => rfl, ?_, ?_⟩
          · intro v hv H' hle
            obtain ⟨y, hy, rfl⟩ := List.mem_map.mp hv
            have Rp2 := Rp1.le hle
            refine PureStep.map rfl fun L' => ?_
            simp only [nv]
            walk_at "w"
            refine CmpW.inI Rp2.h ?_
            rw [heardM_some]
            exact ⟨rfl, by rw [gN_nv]⟩
          rw [fm_gN, fm_map]
          walk_at "w"
          refine CallW.all P.hd (bs := m.others.map fun o => decide (o ∈ s :: m.heard)) (by rw [List.map_map]; rfl) ?_
          walk_at "w"
          have e3 : ((m.others.map fun o => decide (o ∈ s :: m.heard)).all id) = m.others.all fun o => decide (o ∈ s :: m.heard) := by rw [List.all_map]; rfl
          rw [e3]
          refine ite_w (fun h2 => ?_) fun h2 => ?_
          · walk_at "w"
            refine ite_t rfl ?_
            walk_at "w"
            refine EvalW.list ?_
            walk_at "w"
            refine ⟨by simp, fun x hx => ?_⟩
            have e4 : (m.isAll && !(m.others.all fun o => decide (o ∈ s :: m.heard))) = true := by rw [h1, h2]; rfl
            refine RetQ.here (ρ := fun _ => Option.none) (hQ _ x ?_ ?_ (hn1 x hx) (f1.set (hn1 x hx)))
            · rw [show toldM m s = ({ m with heard := s :: m.heard }, []) by unfold toldM; rw [if_neg (by rw [h']; decide), if_pos e4]]
              exact Rp1.fresh (o := .list []) hx
            · rw [show toldM m s = ({ m with heard := s :: m.heard }, []) by unfold toldM; rw [if_neg (by rw [h']; decide), if_pos e4], Hp.set_self]; rfl
          · refine ite_f rfl ?_
            walk_at "w"
            exact ⟨_, ⟨rfl, by rw [h1, h2]; rfl, rfl⟩, rfl, rfl, trivial⟩
        · refine ite_f rfl ?_
          walk_at "w"
          exact ⟨_, ⟨rfl, by rw [h1]; rfl, rfl⟩, rfl, rfl, trivial⟩
      rintro l H0 ⟨rfl, e4, rfl⟩
      walk_at "w"
      refine Rp1.putFreed P hc true fun H2 Rp2 e2 => ?_
      have f2 := f1.but e2 (.inl rfl)
      have hn2 : ∀ x, H2 x = none → H x = none := fun x hx => f2.none Rp Rp2 hx
      walk_at "w"
      refine ⟨_, Rp2.meth P hc (f := 33) (by with_unfolding_all rfl) (by kernel_rfl) (by kernel_rfl), Plainly.ofS P.X rfl, ?_⟩
      walk_at "w"
      refine (send_ok P _).call ⟨A, _, .freed, m.askers, _, rfl, Rp2, lview_ref Rp2.a, ho1, ?_⟩
      intro H' x r2 e5 n2 f3
      walk_at "w"
      refine RetQ.here (hQ _ x ?_ ?_ (hn2 x n2) (f2.trans f3))
      · rw [show toldM m s = sendM { m with heard := s :: m.heard, freed := true } .freed m.askers by unfold toldM; rw [if_neg (by rw [h']; decide), if_neg (by rw [e4]; decide)]]; exact r2
      · rw [show toldM m s = sendM { m with heard := s :: m.heard, freed := true } .freed m.askers by unfold toldM; rw [if_neg (by rw [h']; decide), if_neg (by rw [e4]; decide)]]; exact e5

set_option maxHeartbeats 8000000 in
theorem come_ok (P : PCx C (K5 C)) (k : Nat) : FnOK C (k + 4) (.ref 47) (S_come 62) := by
  have hc := handC C
  refine FnOK.ofS (K := K5 C) [Str.ofString "self", Str.ofString "letter"] P.X P.lim rfl rfl (by kernel_rfl) ?_ (by kernel_rfl) (by kernel_rfl) ?_
  · intro vals h
    rcases vals with _ | ⟨a, _ | ⟨b, _ | ⟨c, t⟩⟩⟩ <;> simp at h
    rfl
  · rintro args Q R H ⟨A, m, w, s, r, rfl, Rp, ⟨ho1, ho2, ho3⟩, hQ⟩
    refine ⟨rfl, fun L => ?_⟩
    simp only [lv, nv]
    walk_at "w"
    refine ExecW.assign_tuple (xs := [Str.ofString "word", Str.ofString "sender", Str.ofString "receiver"]) (.cons (.inl rfl) (.cons (.inl rfl) (.cons (.inl rfl) .nil))) P.hd ?_ (by with_unfolding_all rfl) (by with_unfolding_all rfl)
    walk_at "w"
    refine ⟨_, rfl, rfl, ?_⟩
    walk_at "w"
    refine EvalW.list ?_
    walk_at "w"
    refine ⟨by simp, fun x hx => ?_⟩
    have Rp1 := Rp.fresh (o := .list []) hx
    have f1 : HFrame H (H.set x (.list [])) A := (HFrame.refl H A).set hx
    have x1 : (H.set x (.list [])) x = some (.list (([] : List Lt).map lv)) := Hp.set_self ..
    have nx : x ≠ A.a := (Hp.ne Rp.a hx).symm
    generalize H.set x (.list []) = H1 at Rp1 f1 x1
    refine Cont.next (ExecsW.seq (fun l H' => HandRep 62 H' A (wakeM m w s).1 ∧ H' x = some (.list ((wakeM m w s).2.map lv)) ∧ HFrame H H' A ∧ l = [(Str.ofString "self", V.ref A.i), (Str.ofString "word", V.str w.str), (Str.ofString "sender", V.int ((s : Nat) : Int)), (Str.ofString "found", V.ref x)]) ?_ ?_)
    · walk_at "w"
      rw [str_back]
      refine ite_w (fun h => ?_) fun h => ?_
      · have hw : w = .back := by simpa using h
        walk_at "w"
        refine Rp1.putOwed P hc _ fun H2 Rp2 e2 => ?_
        walk_at "w"
        refine ⟨_, ⟨?_, ?_, f1.but e2 (.inl rfl), rfl⟩, rfl, rfl, rfl, rfl, trivial⟩
        · rw [show wakeM m w s = ({ m with owed := m.owed - 1 }, []) by unfold wakeM; rw [if_pos hw]]; exact Rp2
        · rw [show wakeM m w s = ({ m with owed := m.owed - 1 }, []) by unfold wakeM; rw [if_pos hw]]; exact Rp1.keep x1 e2
      · have hw : w ≠ .back := by simpa using h
        refine ExecsW.cons ?_
        have tl : ∀ (QB : Bool → Hp → Prop), QB (m.asker || m.waker.isSome) H1 → (if m.asker = true then QB true H1 else if (!(ov m.waker).isNone) = true then QB true H1 else QB false H1) := fun QB h => by
          cases ha : m.asker <;> cases hk : m.waker <;> simp [ha, hk, ov, V.isNone] at h ⊢ <;> exact h
        walk_at "w"
        refine ite_w (fun ha => ?_) fun ha => ?_
        · refine ite_t rfl ?_
          walk_at "w"
          refine ⟨_, MethIs.append x1, Plainly.builtin _, ?_⟩
          walk_at "w"
          refine ⟨?_, by simp⟩
          refine ArgsW.nil ?_
          refine CallW.append x1 (by simp) ?_
          have e3 : wakeM m w s = (m, [(.back, m.num, s)]) := by unfold wakeM; rw [if_neg hw, if_pos (by rw [ha]; rfl)]
          walk_at "w"
          refine ⟨_, ⟨?_, ?_, f1.set hx, rfl⟩, rfl, rfl, rfl, rfl, trivial⟩
          · rw [e3]; exact Rp1.list x1 nx
          · rw [e3, Hp.set_self]; rfl
        · walk_at "w"
          refine CmpW.isNotNone (ov_notCon _) ?_
          walk_at "w"
          rw [ov_isNone]
          refine ite_w (fun hb => ?_) fun hb => ?_
          · refine ite_t rfl ?_
            walk_at "w"
            refine ⟨_, MethIs.append x1, Plainly.builtin _, ?_⟩
            walk_at "w"
            refine ⟨?_, by simp⟩
            refine ArgsW.nil ?_
            refine CallW.append x1 (by simp) ?_
            have e3 : wakeM m w s = (m, [(.back, m.num, s)]) := by
              unfold wakeM; rw [if_neg hw, if_pos]
              cases hk : m.waker with
              | none => rw [hk] at hb; cases hb
              | some u => simp
            walk_at "w"
            refine ⟨_, ⟨?_, ?_, f1.set hx, rfl⟩, rfl, rfl, rfl, rfl, trivial⟩
            · rw [e3]; exact Rp1.list x1 nx
            · rw [e3, Hp.set_self]; rfl
          · walk_at "w"
            refine ite_f rfl ?_
            walk_at "w"
            refine Rp1.putWaker P hc (some s) fun H2 Rp2 e2 => ?_
            have e3 : wakeM m w s = ({ m with waker := some s }, []) := by
              unfold wakeM; rw [if_neg hw, if_neg]
              cases hk : m.waker with
              | none => simpa using ha
              | some u => rw [hk] at hb; cases hb
            walk_at "w"
            refine ⟨_, ⟨?_, ?_, f1.but e2 (.inl rfl), rfl⟩, rfl, rfl, rfl, rfl, trivial⟩
            · rw [e3]; exact Rp2
            · rw [e3]; exact Rp1.keep x1 e2
    clear Rp1 f1 x1 H1
    rintro l H1 ⟨Rp1, x1, f1, rfl⟩
    have same1 := wake_same m w s
    have size1 := wake_sizes m w s
    have hok1 : HOk (wakeM m w s).1 := ⟨by rw [size1.1]; exact ho1, by rw [size1.2.1]; exact ho2, by rw [same1.others]; exact ho3⟩
    have cm : comeM m w s = endM (midM (wakeM m w s).1 w s).1 ((wakeM m w s).2 ++ (midM (wakeM m w s).1 w s).2) := rfl
    have ln1 := size1.2.2
    generalize (wakeM m w s).1 = m1 at Rp1 hok1 cm
    generalize (wakeM m w s).2 = g1 at x1 cm ln1
    refine ExecsW.seq (fun l H' => HandRep 62 H' A (if w = .ask then askedM m1 s else (m1, [])).1 ∧ H' x = some (.list ((g1 ++ (if w = .ask then askedM m1 s else (m1, [])).2).map lv)) ∧ HFrame H H' A ∧ l = [(Str.ofString "self", V.ref A.i), (Str.ofString "word", V.str w.str), (Str.ofString "sender", V.int ((s : Nat) : Int)), (Str.ofString "found", V.ref x)]) ?_ ?_
    · walk_at "w"
      rw [str_ask]
      refine ite_w (fun h => ?_) fun h => ?_
      · have hw : w = .ask := by simpa using h
        simp only [hw, if_true]
        walk_at "w"
        refine ⟨_, MethIs.extend x1, Plainly.builtin _, ?_⟩
        walk_at "w"
        refine ⟨_, Rp1.meth P hc (f := 54) (by with_unfolding_all rfl) (by kernel_rfl) (by kernel_rfl), Plainly.ofS P.X rfl, ?_⟩
        walk_at "w"
        refine (asked_ok P _).call ⟨A, m1, s, rfl, Rp1, hok1, ?_⟩
        intro H2 y r2 e2 n2 f2
        have x2 := Rp1.frame x1 nx f2
        have ms := mid_sizes m1 .ask s
        have nyx : y ≠ x := fun q => by rw [q, x1] at n2; cases n2
        walk_at "w"
        refine CallW.extend x2 e2 (by have := ms.2.2; have := hok1.1; have := hok1.2.2; simp only [List.length_map]; show _ + (midM m1 .ask s).2.length ≤ _; omega) ?_
        walk_at "w"
        refine ⟨_, ⟨r2.list x2 nx, ?_, (f1.trans f2).set hx, rfl⟩, rfl, rfl, rfl, rfl, trivial⟩
        rw [Hp.set_self, List.map_append]
      · have hw : w ≠ .ask := by simpa using h
        simp only [hw, if_false]
        walk_at "w"
        exact ⟨_, ⟨Rp1, by simpa using x1, f1, rfl⟩, rfl, rfl, rfl, rfl, trivial⟩
    clear Rp1 f1 x1 H1
    rintro l H1 ⟨Rp1, x1, f1, rfl⟩
    have hok2 : HOk (if w = .ask then askedM m1 s else (m1, [])).1 ∨ w = .ask := by
      by_cases hw : w = .ask
      · exact .inr hw
      · simp only [hw, if_false]; exact .inl hok1
    have cm2 : w = .freed → (if w = .ask then askedM m1 s else (m1, [])) = (m1, []) := fun h => by rw [h]; rfl
    refine ExecsW.seq (fun l H' => HandRep 62 H' A (midM m1 w s).1 ∧ H' x = some (.list ((g1 ++ (midM m1 w s).2).map lv)) ∧ HFrame H H' A ∧ l = [(Str.ofString "self", V.ref A.i), (Str.ofString "word", V.str w.str), (Str.ofString "sender", V.int ((s : Nat) : Int)), (Str.ofString "found", V.ref x)]) ?_ ?_
    · walk_at "w"
      rw [str_freed]
      refine ite_w (fun h => ?_) fun h => ?_
      · have hw : w = .freed := by simpa using h
        rw [cm2 hw] at Rp1 x1
        simp only [List.append_nil] at x1
        simp only [hw]
        walk_at "w"
        refine ⟨_, MethIs.extend x1, Plainly.builtin _, ?_⟩
        walk_at "w"
        refine ⟨_, Rp1.meth P hc (f := 59) (by with_unfolding_all rfl) (by kernel_rfl) (by kernel_rfl), Plainly.ofS P.X rfl, ?_⟩
        walk_at "w"
        refine (told_ok P _).call ⟨A, m1, s, rfl, Rp1, hok1, ?_⟩
        intro H2 y r2 e2 n2 f2
        have x2 := Rp1.frame x1 nx f2
        have ms := mid_sizes m1 .freed s
        walk_at "w"
        refine CallW.extend x2 e2 (by have := ms.2.2; have := hok1.1; have := hok1.2.2; simp only [List.length_map]; show _ + (midM m1 .freed s).2.length ≤ _; omega) ?_
        walk_at "w"
        refine ⟨_, ⟨r2.list x2 nx, ?_, (f1.trans f2).set hx, rfl⟩, rfl, rfl, rfl, rfl, trivial⟩
        rw [Hp.set_self, List.map_append]; rfl
      · have hw : w ≠ .freed := by simpa using h
        walk_at "w"
        have e3 : midM m1 w s = (if w = .ask then askedM m1 s else (m1, [])) := by
          cases w
          · rfl
          · exact absurd rfl hw
          · rfl
        rw [e3]
        exact ⟨_, ⟨Rp1, x1, f1, rfl⟩, rfl, rfl, rfl, rfl, trivial⟩
    clear Rp1 f1 x1 H1 cm2 hok2
    rintro l H1 ⟨Rp1, x1, f1, rfl⟩
    have ms := mid_sizes m1 w s
    have ln : (g1 ++ (midM m1 w s).2).length ≤ 1000 := by have := ms.2.2; have := hok1.1; have := hok1.2.2; rw [List.length_append]; omega
    generalize (midM m1 w s).1 = m2 at Rp1 cm
    generalize g1 ++ (midM m1 w s).2 = g2 at x1 cm ln
    walk_at "w"
    refine ite_w (fun h0 => ?_) fun h0 => ?_
    · walk_at "w"
      refine CmpW.isNotNone (ov_notCon _) ?_
      walk_at "w"
      rw [ov_isNone]
      refine ite_w (fun hb => ?_) fun hb => ?_
      · walk_at "w"
        refine ite_t rfl ?_
        obtain ⟨u, hu⟩ : ∃ u, m2.waker = some u := by
          cases hk : m2.waker with
          | none => rw [hk] at hb; cases hb
          | some u => exact ⟨u, rfl⟩
        have e0 : m2.owed = 0 := by simpa using h0
        walk_at "w"
        refine ⟨_, MethIs.append x1, Plainly.builtin _, ?_⟩
        walk_at "w"
        refine ⟨?_, by simp⟩
        refine ArgsW.nil ?_
        refine CallW.append x1 (by simpa using ln) ?_
        have Rp2 := Rp1.list (l' := g2.map lv ++ [V.tup [.str (Str.ofString "back"), .int ((m2.num : Nat) : Int), ov m2.waker]]) x1 nx
        have x2 : (H1.set x (.list (g2.map lv ++ [V.tup [.str (Str.ofString "back"), .int ((m2.num : Nat) : Int), ov m2.waker]]))) x = some (.list ((g2 ++ [(LW.back, m2.num, u)]).map lv)) := by
          rw [Hp.set_self, hu]; simp [lv, LW.str, nv, ov]
        have f2 : HFrame H (H1.set x (.list (g2.map lv ++ [V.tup [.str (Str.ofString "back"), .int ((m2.num : Nat) : Int), ov m2.waker]]))) A := f1.set hx
        generalize H1.set x (.list (g2.map lv ++ [V.tup [.str (Str.ofString "back"), .int ((m2.num : Nat) : Int), ov m2.waker]])) = H2 at Rp2 x2 f2
        walk_at "w"
        refine Rp2.putWaker P hc none fun H3 Rp3 e3 => ?_
        walk_at "w"
        have e4 : comeM m w s = ({ m2 with waker := none }, g2 ++ [(LW.back, m2.num, u)]) := by rw [cm]; unfold endM; rw [hu]; simp [e0]
        refine RetQ.here (hQ _ x ?_ ?_ hx (f2.but e3 (.inl rfl)))
        · rw [e4]; exact Rp3
        · rw [e4]; exact Rp2.keep x2 e3
      · refine ite_f rfl ?_
        walk_at "w"
        have e4 : comeM m w s = (m2, g2) := by
          rw [cm]; unfold endM
          cases hk : m2.waker with
          | none => rfl
          | some u => rw [hk] at hb; cases hb
        refine RetQ.here (hQ _ x ?_ ?_ hx f1)
        · rw [e4]; exact Rp1
        · rw [e4]; exact x1
    · refine ite_f rfl ?_
      walk_at "w"
      have e0 : m2.owed ≠ 0 := by simpa using h0
      have e4 : comeM m w s = (m2, g2) := by
        rw [cm]; unfold endM
        cases hk : m2.waker with
        | none => rfl
        | some u => simp [e0]
      refine RetQ.here (hQ _ x ?_ ?_ hx f1)
      · rw [e4]; exact Rp1
      · rw [e4]; exact x1


set_option maxHeartbeats 8000000 in
theorem init2_ok (P : PCx C (K5 C)) (k : Nat) : FnOK C (k + 1) (.ref 28) (S_init2 62) := by
  have hc := handC C
  refine FnOK.ofS (K := K5 C) [Str.ofString "self", Str.ofString "number", Str.ofString "wait", Str.ofString "is_asker"] P.X P.lim rfl rfl (by kernel_rfl) ?_ (by kernel_rfl) (by kernel_rfl) ?_
  · intro vals h
    rcases vals with _ | ⟨a, _ | ⟨b, _ | ⟨c, _ | ⟨d, _ | ⟨e, t⟩⟩⟩⟩⟩ <;> simp at h
    rfl
  · rintro args Q R H ⟨x, d, num, w, b, wV, rfl, hwv, hx, hd, hn, hQ⟩
    refine ⟨rfl, fun L => ?_⟩
    have hnc : wV.notCon := by
      rcases w with _ | ⟨a, l⟩
      · rw [show wV = .none from hwv]; trivial
      · obtain ⟨hv, rfl, _⟩ := hwv; trivial
    have hin : wV.isNone = w.isNone := by
      rcases w with _ | ⟨a, l⟩
      · rw [show wV = .none from hwv]; rfl
      · obtain ⟨hv, rfl, _⟩ := hwv; rfl
    simp only [nv]
    have I0 : IRep 62 H H x d [] 0 := ⟨hx, hd, fun _ _ e _ => e⟩
    walk_at "w"
    refine I0.put P hc (by decide +kernel) (by decide) fun H1 I1 e1 => ?_
    clear I0
    walk_at "w"
    refine I1.put P hc (by decide +kernel) (by decide) fun H2 I2 e2 => ?_
    clear I1
    walk_at "w"
    refine CmpW.isNone hnc ?_
    rw [hin]
    walk_at "w"
    refine I2.put P hc (by decide +kernel) (by decide) fun H3 I3 e3 => ?_
    clear I2
    walk_at "w"
    refine I3.put P hc (by decide +kernel) (by decide) fun H4 I4 e4 => ?_
    clear I3
    walk_at "w"
    refine EvalW.list_fz ?_
    walk_at "w"
    refine ⟨by simp, ?_⟩
    walk_at "w"
    refine I4.put P hc (by decide +kernel) (by decide) fun H5 I5 e5 => ?_
    clear I4
    refine Cont.next (ExecsW.seq (fun l H' => IRep 62 H H' x d [(Str.ofString "number", .int ((num : Nat) : Int)), (Str.ofString "is_asker", .bool b), (Str.ofString "is_freed", .bool w.isNone), (Str.ofString "word", .str (initM num w b).word), (Str.ofString "others", .lst ((initM num w b).others.map nv))] 5 ∧ l = [(Str.ofString "self", V.ref x)]) ?_ ?_)
    · walk_at "w"
      refine CmpW.isNotNone hnc ?_
      rw [hin]
      walk_at "w"
      have kp : ∀ b, b ≠ d → H5 b = H b := fun b hb => by rw [e5 b hb, e4 b hb, e3 b hb, e2 b hb, e1 b hb]
      rcases w with _ | ⟨a, l⟩
      · refine ite_f rfl ?_
        walk_at "w"
        exact ⟨_, ⟨I5, rfl⟩, rfl, trivial⟩
      · refine ite_t rfl ?_
        obtain ⟨hv, rfl, hl⟩ := hwv
        walk_at "w"
        refine SubW.tup (by decide) (by decide) rfl ?_
        walk_at "w"
        refine I5.putOld P hc (by decide +kernel) (by decide) (by with_unfolding_all rfl) fun H6 I6 e6 => ?_
        walk_at "w"
        refine SubW.tup (by decide) (by decide) rfl ?_
        walk_at "w"
        refine CallW.listCopyF (lview_keep hl (fun b hb => (e6 b hb).trans (kp b hb)) (fun l q => by rw [hd] at q; cases q)) (by simpa [initM, HandM.others] using Nat.le_trans hn (by decide)) ?_
        walk_at "w"
        refine I6.putOld P hc (by decide +kernel) (by decide) (by with_unfolding_all rfl) fun H7 I7 _ => ?_
        walk_at "w"
        exact ⟨_, ⟨I7, rfl⟩, rfl, trivial⟩
    clear I5
    rintro l H5 ⟨I5, rfl⟩
    walk_at "w"
    refine I5.put P hc (by decide +kernel) (by decide) fun H6 I6 _ => ?_
    clear I5
    walk_at "w"
    refine EvalW.list ?_
    walk_at "w"
    refine ⟨by simp, fun ya hya => ?_⟩
    have hya0 := I6.old hya
    have I7 := I6.fresh (o := .list []) hya hya0
    have a7 : (H6.set ya (.list [])) ya = some (.list []) := Hp.set_self ..
    generalize H6.set ya (.list []) = H7 at I7 a7
    clear I6
    walk_at "w"
    refine I7.put P hc (by decide +kernel) (by decide) fun H8 I8 e8 => ?_
    have a8 : H8 ya = some (.list []) := by rw [e8 ya (Hp.ne' a7 I7.d (by simp))]; exact a7
    clear I7 a7
    walk_at "w"
    refine EvalW.dictI fun yh hyh => ?_
    have hyh0 := I8.old hyh
    have I9 := I8.fresh (o := .dictI (fun _ => none) 0) hyh hyh0
    have a9 : (H8.set yh (.dictI (fun _ => none) 0)) ya = some (.list []) := by rw [Hp.set_ne (Hp.ne a8 hyh)]; exact a8
    have h9 : (H8.set yh (.dictI (fun _ => none) 0)) yh = some (.dictI (fun _ => none) 0) := Hp.set_self ..
    generalize H8.set yh (.dictI (fun _ => none) 0) = H9 at I9 a9 h9
    clear I8 a8
    walk_at "w"
    refine I9.put P hc (by decide +kernel) (by decide) fun HA IA eA => ?_
    have aA : HA ya = some (.list []) := by rw [eA ya (Hp.ne' a9 I9.d (by simp))]; exact a9
    have hA : HA yh = some (.dictI (fun _ => none) 0) := by rw [eA yh (Hp.ne' h9 I9.d (by simp))]; exact h9
    clear I9 a9 h9
    walk_at "w"
    refine IA.put P hc (by decide +kernel) (by decide) fun HB IB eB => ?_
    have aB : HB ya = some (.list []) := by rw [eB ya (Hp.ne' aA IA.d (by simp))]; exact aA
    have hB : HB yh = some (.dictI (fun _ => none) 0) := by rw [eB yh (Hp.ne' hA IA.d (by simp))]; exact hA
    clear IA aA hA
    walk_at "w"
    refine IB.put P hc (by decide +kernel) (by decide) fun HC IC eC => ?_
    have aC : HC ya = some (.list []) := by rw [eC ya (Hp.ne' aB IB.d (by simp))]; exact aB
    have hC : HC yh = some (.dictI (fun _ => none) 0) := by rw [eC yh (Hp.ne' hB IB.d (by simp))]; exact hB
    walk_at "w"
    refine ⟨.none, HC, Fz.refl, ?_⟩
    refine hQ HC ⟨x, d, ya, yh⟩ rfl rfl ⟨IC.i, IC.d, aC, ?_⟩ hya0 hyh0 fun b o e q => IC.fr b o e q
    rw [hC]
    have : (fun _ => Option.none : Int → Option V) = heardM [] := by funext i; simp [heardM]
    rw [this]; rfl

variable {C : Cx}
theorem ty_lview {H : Hp} {v : V} {l : List V} (h : lview H v = some l) : tyOf H v = some "list" := by
  cases v with
  | lst l' => rfl
  | ref a =>
    unfold lview at h
    dsimp only at h
    split at h
    · rename_i e; simp [tyOf, e]
    · cases h
  | _ => cases h
def S_alike : SpecT := fun args Q R H => ∃ (l : List Lt) (fv dv : V), args = [fv, dv] ∧ lview H fv = some (l.map lv) ∧ lview H dv = some (l.map lv) ∧ l.length ≤ 900 ∧ Q (.bool true) H
def S_kept (c : Addr) : SpecT := fun args Q R H => ∃ (A : HA) (B : SA) (wd : Str) (st : S5), args = [.ref A.i, .ref B.d] ∧ HandRep c H A st.m ∧ SRep H B wd st ∧ Q (.bool true) H

set_option maxHeartbeats 4000000 in
theorem alike_ok (P : PCx C (K5 C)) (k : Nat) : FnOK C (k + 1) (.ref 78) S_alike := by
  have hc := handC C
  refine FnOK.ofS (K := K5 C) [Str.ofString "_law_found", Str.ofString "_law_due"] P.X P.lim rfl rfl (by kernel_rfl) ?_ (by kernel_rfl) (by kernel_rfl) ?_
  · intro vals h
    rcases vals with _ | ⟨a, _ | ⟨b, _ | ⟨c, t⟩⟩⟩ <;> simp at h
    rfl
  · rintro args Q R H ⟨l, fv, dv, rfl, hf, hd, hn, hQ⟩
    refine ⟨rfl, fun L => ?_⟩
    walk_at "w"
    refine CallW.isi_list (ty_lview hf) ?_
    walk_at "w"
    refine ite_f rfl ?_
    walk_at "w"
    refine CallW.len hf (by simp; omega) ?_
    walk_at "w"
    refine CallW.len hd (by simp; omega) ?_
    walk_at "w"
    refine ite_f (by simp) ?_
    walk_at "w"
    refine ite_f rfl ?_
    walk_at "w"
    refine ExecW.for_all false P.hd (fun e => by cases e) [(Str.ofString "_law_found", fv), (Str.ofString "_law_due", dv)] ⟨rfl, rfl, trivial⟩ ?_
    refine IterE.range (P.blt (by kernel_rfl) (by boot_fast)) rfl ?_
    walk_at "w"
    refine CallW.len hd (by simp; omega) ?_
    rw [List.length_map]
    refine ⟨_, rfl, by omega, by omega, ?_⟩
    rw [Int.toNat_natCast]
    refine ⟨fun _ => True, trivial, ?_, ?_⟩
    · intro i v hv _
      rw [rangeV_nv, List.getElem?_map] at hv
      have hi : i < l.length := by
        by_cases h : i < l.length
        · exact h
        · rw [List.getElem?_eq_none (by simp; omega)] at hv; cases hv
      rw [List.getElem?_range hi] at hv
      cases hv
      obtain ⟨⟨w, a, b⟩, ht⟩ : ∃ t, l[i]? = some t := ⟨_, List.getElem?_eq_getElem hi⟩
      refine AssignW.name (Or.inl rfl) ?_
      simp only [nv]
      have g : (l.map lv)[((i : Nat) : Int).toNat]? = some (.tup [.str w.str, .int ((a : Nat) : Int), .int ((b : Nat) : Int)]) := by simp [ht, lv, nv]
      walk_at "w"
      refine SubW.list hf (by omega) (by omega) g ?_
      walk_at "w"
      refine CallW.isi_tuple rfl ?_
      walk_at "w"
      refine ite_f rfl ?_
      walk_at "w"
      refine SubW.list hf (by omega) (by omega) g ?_
      walk_at "w"
      refine CallW.lenT (by simp) ?_
      walk_at "w"
      refine ite_f rfl ?_
      walk_at "w"
      refine SubW.list hf (by omega) (by omega) g ?_
      walk_at "w"
      refine SubW.tup (by decide) (by decide) rfl ?_
      walk_at "w"
      refine CallW.isi_str rfl ?_
      walk_at "w"
      refine ite_f rfl ?_
      walk_at "w"
      refine ite_f rfl ?_
      walk_at "w"
      refine EvalW.compP (fun _ => none) rfl P.hd rfl ?_
      refine IterE.tup ?_
      refine EvalW.sliceT ?_
      walk_at "w"
      refine SubW.list hf (by omega) (by omega) g ?_
      walk_at "w"
      refine ⟨_, 1, rfl, rfl, by decide, by simp, by simp, ?_⟩
      refine ⟨_, rfl, by simp, fun _ _ => trivial, ?_, ?_⟩
      · intro v hv H' hle
        have : ∃ n : Nat, v = .int ((n : Nat) : Int) := by
          simp only [List.drop_succ_cons, List.drop_zero] at hv
          cases hv with
          | head => exact ⟨a, rfl⟩
          | tail _ hv => cases hv with
            | head => exact ⟨b, rfl⟩
            | tail _ hv => cases hv
        obtain ⟨n, rfl⟩ := this
        refine PureStep.filt rfl fun L' => ?_
        walk_at "w"
        refine CallW.isi_bool rfl ?_
        walk_at "w"
        refine ite_f rfl ?_
        walk_at "w"
        refine CallW.isi_int rfl ?_
        walk_at "w"
        refine ite_f rfl ?_
        walk_at "w"
        exact ⟨rfl, ite_f rfl rfl⟩
      refine EvalW.list_fz ?_
      walk_at "w"
      refine ⟨by simp, ?_⟩
      refine CmpW.neN (l := []) (l' := []) (by simp [lview]) (by simp [lview]) ?_
      walk_at "w"
      refine ite_f rfl ?_
      walk_at "w"
      refine SubW.list hf (by omega) (by omega) (u := lv (w, a, b)) (by simp [ht]) ?_
      walk_at "w"
      refine SubW.list hd (by omega) (by omega) (u := lv (w, a, b)) (by simp [ht]) ?_
      refine CmpW.neL1 ?_
      walk_at "w"
      refine ite_f rfl ?_
      walk_at "w"
      exact ⟨trivial, rfl, rfl, rfl, trivial⟩
    · intro _
      walk_at "w"
      exact RetQ.here hQ

set_option maxHeartbeats 4000000 in
theorem kept_ok (P : PCx C (K5 C)) (k : Nat) : FnOK C (k + 1) (.ref 85) (S_kept 62) := by
  have hc := handC C
  refine FnOK.ofS (K := K5 C) [Str.ofString "_law_hand", Str.ofString "_law_s"] P.X P.lim rfl rfl (by kernel_rfl) ?_ (by kernel_rfl) (by kernel_rfl) ?_
  · intro vals h
    rcases vals with _ | ⟨a, _ | ⟨b, _ | ⟨c, t⟩⟩⟩ <;> simp at h
    rfl
  · rintro args Q R H ⟨A, B, wd, st, rfl, Rp, Sp, hQ⟩
    refine ⟨rfl, fun L => ?_⟩
    have Sd := Sp.d
    walk_at "w"
    refine CallW.isi_bool rfl ?_
    walk_at "w"
    refine ite_f rfl ?_
    walk_at "w"
    refine CallW.isi_bool rfl ?_
    walk_at "w"
    refine ite_f rfl ?_
    walk_at "w"
    refine ite_f rfl ?_
    walk_at "w"
    refine CmpW.neB ?_
    walk_at "w"
    refine ite_f (by simp) ?_
    walk_at "w"
    refine CmpW.neB ?_
    walk_at "w"
    refine ite_f (by simp) ?_
    walk_at "w"
    refine ite_f rfl ?_
    walk_at "w"
    refine CallW.isi_bool rfl ?_
    walk_at "w"
    refine ite_f rfl ?_
    walk_at "w"
    refine CallW.isi_int rfl ?_
    walk_at "w"
    refine ite_f rfl ?_
    walk_at "w"
    refine ite_f (by simp) ?_
    walk_at "w"
    refine ite_f rfl ?_
    walk_at "w"
    refine CallW.isi_list (ty_lview (lview_ref Rp.a)) ?_
    walk_at "w"
    refine ite_f rfl ?_
    walk_at "w"
    refine CmpW.neN (lview_ref Rp.a) (lview_ref (Sp.l 1 (by decide))) ?_
    walk_at "w"
    refine ite_f (by simp) ?_
    walk_at "w"
    refine ite_f rfl ?_
    walk_at "w"
    refine CmpW.isNone (ov_notCon _) ?_
    walk_at "w"
    rw [ov_isNone]
    cases hw : st.m.waker with
    | none =>
      refine ite_t rfl ?_
      walk_at "w"
      refine CmpW.isNone (ov_notCon _) ?_
      walk_at "w"
      rw [ov_isNone, hw]
      exact RetQ.here hQ
    | some u =>
      refine ite_f rfl ?_
      walk_at "w"
      rw [hw]
      refine CallW.isi_bool rfl ?_
      walk_at "w"
      refine ite_t rfl ?_
      walk_at "w"
      rw [hw]
      refine CallW.isi_int rfl ?_
      walk_at "w"
      refine ite_t rfl ?_
      walk_at "w"
      rw [hw]
      simp only [ov]
      walk_at "w"
      rw [show (((u : Nat) : Int) == ((u : Nat) : Int)) = true by simp]
      exact RetQ.here hQ

set_option maxHeartbeats 4000000 in
theorem sent5_ok (P : PCx C (K5 C)) (k : Nat) : FnOK C (k + 1) (.ref 90) S_sent5 := by
  have hc := handC C
  refine FnOK.ofS (K := K5 C) [Str.ofString "_law_s", Str.ofString "_law_word", Str.ofString "_law_hands"] P.X P.lim rfl rfl (by kernel_rfl) ?_ (by kernel_rfl) (by kernel_rfl) ?_
  · intro vals h
    rcases vals with _ | ⟨a, _ | ⟨b, _ | ⟨c, _ | ⟨d, t⟩⟩⟩⟩ <;> simp at h
    rfl
  · rintro args Q R H ⟨B, wd, st, w, l, x, rfl, Sp, hx, hx4, hx5, hl, ho, hm, hQ⟩
    refine ⟨rfl, fun L => ?_⟩
    have Sd := Sp.d
    walk_at "w"
    refine CallW.len (lview_ref hx) (by simp; omega) ?_
    rw [List.length_map]
    walk_at "w"
    refine Sp.putOwed _ fun H1 Sp1 e1 => ?_
    have f1 : SFrame H H1 B := (SFrame.refl H B).butd e1
    have x1 : H1 x = some (.list (l.map nv)) := (e1 x (Hp.ne' hx Sp.d (by simp))).trans hx
    clear Sd
    have Sd := Sp1.d
    walk_at "w"
    refine ⟨_, MethIs.extend (Sp1.l 4 (by decide)), Plainly.builtin _, ?_⟩
    walk_at "w"
    refine CallW.extend (Sp1.l 4 (by decide)) x1 (by simp only [cont, List.length_map]; omega) ?_
    have Sp2 := Sp1.set (i := 4) (by decide) { st with m := { st.m with owed := st.m.owed + l.length }, out := st.out ++ l } rfl (fun j h6 hj => by rcases j with _ | _ | _ | _ | _ | _ | j <;> first | rfl | exact absurd rfl hj | omega)
    have f2 := f1.butl (i := 4) (o := .list (cont { st with m := { st.m with owed := st.m.owed + l.length }, out := st.out ++ l } 4)) (by decide)
    have x2 : (H1.set (B.f 4) (.list (cont { st with m := { st.m with owed := st.m.owed + l.length }, out := st.out ++ l } 4))) x = some (.list (l.map nv)) := (Hp.set_ne hx4).trans x1
    rw [show cont { st with m := { st.m with owed := st.m.owed + l.length } } 4 ++ l.map nv = cont { st with m := { st.m with owed := st.m.owed + l.length }, out := st.out ++ l } 4 by simp [cont]]
    generalize H1.set (B.f 4) (.list (cont { st with m := { st.m with owed := st.m.owed + l.length }, out := st.out ++ l } 4)) = H2 at Sp2 f2 x2
    clear Sd
    have Sd := Sp2.d
    walk_at "w"
    refine ⟨_, MethIs.extend (Sp2.l 5 (by decide)), Plainly.builtin _, ?_⟩
    walk_at "w"
    refine EvalW.compO (gN fun n => if decide (n = st.m.num) = true then some (mvL st.m.num w) else none) rfl P.hd rfl ?_
    refine IterE.list ?_
    walk_at "w"
    refine ⟨_, lview_ref x2, by simp; omega, fun _ hle => lcond_le (lview_ref x2) hle, ?_, fun y hy => ?_⟩
    · intro v hv H' hle
      obtain ⟨z, hz, rfl⟩ := List.mem_map.mp hv
      have Sd := (Sp2.le hle).d
      refine PureStep.filt rfl fun L' => ?_
      simp only [nv]
      walk_at "w"
      refine ⟨rfl, ?_⟩
      refine ite_w (fun h => ?_) fun h => ?_
      · have hz : z = st.m.num := eq_t h
        walk_at "w"
        refine ⟨⟨rfl, ?_⟩, by simp⟩
        rw [gN_nv, hz]; simp [mvL]
      · have hz : ¬ z = st.m.num := eq_f h
        rw [gN_nv]; simp [hz]
    rw [fm_gN]
    rw [self_list]
    obtain ⟨ex, hex⟩ : ∃ ex, ex = (l.filter (fun x => decide (x = st.m.num))).map fun _ => w := ⟨_, rfl⟩
    have exl : ex.length ≤ 400 := by rw [hex, List.length_map]; exact Nat.le_trans (List.length_filter_le ..) hl
    rw [← hex]
    have hy0 : H y = none := f2.none Sp2 hy
    have Sp3 := Sp2.le (Hp.le_set (o := .list (ex.map (mvL st.m.num))) hy)
    have f3 := f2.set (o := .list (ex.map (mvL st.m.num))) hy0
    have x3 : (H2.set y (.list (ex.map (mvL st.m.num)))) x = some (.list (l.map nv)) := Hp.le_set hy _ _ x2
    have y3 : (H2.set y (.list (ex.map (mvL st.m.num)))) y = some (.list (ex.map (mvL st.m.num))) := Hp.set_self ..
    generalize H2.set y (.list (ex.map (mvL st.m.num))) = H3 at Sp3 f3 x3 y3
    walk_at "w"
    refine CallW.extend (Sp3.l 5 (by decide)) y3 (by simp only [cont, List.length_map]; omega) ?_
    have e5 : sentS st w l = ({ st with m := { st.m with owed := st.m.owed + l.length }, out := st.out ++ l, mine := st.mine ++ ex }, l.map fun x => (w, st.m.num, x)) := by rw [hex]; rfl
    have Sp4 := Sp3.set (i := 5) (by decide) { st with m := { st.m with owed := st.m.owed + l.length }, out := st.out ++ l, mine := st.mine ++ ex } rfl (fun j h6 hj => by rcases j with _ | _ | _ | _ | _ | _ | j <;> first | rfl | exact absurd rfl hj | omega)
    have f4 := f3.butl (i := 5) (o := .list (cont { st with m := { st.m with owed := st.m.owed + l.length }, out := st.out ++ l, mine := st.mine ++ ex } 5)) (by decide)
    have x4 : (H3.set (B.f 5) (.list (cont { st with m := { st.m with owed := st.m.owed + l.length }, out := st.out ++ l, mine := st.mine ++ ex } 5))) x = some (.list (l.map nv)) := (Hp.set_ne hx5).trans x3
    rw [show cont { st with m := { st.m with owed := st.m.owed + l.length }, out := st.out ++ l } 5 ++ ex.map (mvL st.m.num) = cont { st with m := { st.m with owed := st.m.owed + l.length }, out := st.out ++ l, mine := st.mine ++ ex } 5 by simp [cont]]
    generalize H3.set (B.f 5) (.list (cont { st with m := { st.m with owed := st.m.owed + l.length }, out := st.out ++ l, mine := st.mine ++ ex } 5)) = H4 at Sp4 f4 x4
    clear Sd
    walk_at "w"
    refine EvalW.compP (gN fun n => some (lv (w, st.m.num, n))) rfl P.hd rfl ?_
    refine IterE.list ?_
    walk_at "w"
    refine ⟨_, lview_ref x4, by simp; omega, fun _ hle => lcond_le (lview_ref x4) hle, ?_, ?_⟩
    · intro v hv H' hle
      obtain ⟨z, hz, rfl⟩ := List.mem_map.mp hv
      have Sd := (Sp4.le hle).d
      refine PureStep.map rfl fun L' => ?_
      simp only [nv]
      walk_at "w"
      exact ⟨⟨rfl, by rw [gN_nv]; rfl⟩, by simp⟩
    rw [fm_gN, fm_map]
    walk_at "w"
    have := hQ H4 (by rw [e5]; exact Sp4) f4
    rw [e5] at this
    refine RetQ.here ?_
    simpa [Function.comp_def] using this

set_option maxHeartbeats 4000000 in
theorem sent_back5_ok (P : PCx C (K5 C)) (k : Nat) : FnOK C (k + 1) (.ref 97) S_sent_back5 := by
  have hc := handC C
  refine FnOK.ofS (K := K5 C) [Str.ofString "_law_s", Str.ofString "_law_hand"] P.X P.lim rfl rfl (by kernel_rfl) ?_ (by kernel_rfl) (by kernel_rfl) ?_
  · intro vals h
    rcases vals with _ | ⟨a, _ | ⟨b, _ | ⟨c, t⟩⟩⟩ <;> simp at h
    rfl
  · rintro args Q R H ⟨B, wd, st, h, rfl, Sp, hm, hQ⟩
    refine ⟨rfl, fun L => ?_⟩
    have Sd := Sp.d
    refine ExecsW.seq (fun l H' => SRep H' B wd (backS st h).1 ∧ SFrame H H' B ∧ l = [(Str.ofString "_law_s", V.ref B.d), (Str.ofString "_law_hand", V.int ((h : Nat) : Int))]) ?_ ?_
    · walk_at "w"
      refine ite_w (fun q => ?_) fun q => ?_
      · have hq : h = st.m.num := eq_t q
        walk_at "w"
        refine ⟨_, MethIs.append (Sp.l 5 (by decide)), Plainly.builtin _, ?_⟩
        walk_at "w"
        refine ⟨?_, by simp⟩
        refine ArgsW.nil ?_
        refine CallW.append (Sp.l 5 (by decide)) (by simp only [cont, List.length_map]; omega) ?_
        have e0 : backS st h = ({ st with mine := st.mine ++ [.back] }, [(.back, st.m.num, h)]) := by unfold backS; rw [if_pos hq]
        have Sp1 := Sp.set (i := 5) (by decide) { st with mine := st.mine ++ [.back] } rfl (fun j h6 hj => by rcases j with _ | _ | _ | _ | _ | _ | j <;> first | rfl | exact absurd rfl hj | omega)
        have f1 := (SFrame.refl H B).butl (i := 5) (o := .list (cont { st with mine := st.mine ++ [.back] } 5)) (by decide)
        rw [show cont st 5 ++ [V.tup [.str (Str.ofString "back"), .int ((h : Nat) : Int)]] = cont { st with mine := st.mine ++ [.back] } 5 by simp [cont, mvL, LW.str, hq]]
        walk_at "w"
        exact ⟨_, ⟨by rw [e0]; exact Sp1, f1, rfl⟩, rfl, rfl, trivial⟩
      · have hq : ¬ h = st.m.num := eq_f q
        have e0 : backS st h = (st, [(.back, st.m.num, h)]) := by unfold backS; rw [if_neg hq, List.append_nil]
        walk_at "w"
        exact ⟨_, ⟨by rw [e0]; exact Sp, SFrame.refl H B, rfl⟩, rfl, rfl, trivial⟩
    rintro l H1 ⟨Sp1, f1, rfl⟩
    clear Sd
    have Sd := Sp1.d
    walk_at "w"
    refine EvalW.list_fz ?_
    walk_at "w"
    refine ⟨?_, by simp⟩
    walk_at "w"
    refine ⟨by simp, ?_⟩
    walk_at "w"
    exact RetQ.here (hQ H1 Sp1 f1)
variable {C : Cx}
set_option maxHeartbeats 8000000 in
theorem come5_ok (P : PCx C (K5 C)) (k : Nat) : FnOK C (k + 2) (.ref 104) S_come5 := by
  have hc := handC C
  refine FnOK.ofS (K := K5 C) [Str.ofString "_law_s", Str.ofString "_law_word", Str.ofString "_law_sender"] P.X P.lim rfl rfl (by kernel_rfl) ?_ (by kernel_rfl) (by kernel_rfl) ?_
  · intro vals h
    rcases vals with _ | ⟨a, _ | ⟨b, _ | ⟨c, _ | ⟨d, t⟩⟩⟩⟩ <;> simp at h
    rfl
  · rintro args Q R H ⟨B, wd, st, w, s, rfl, Sp, ⟨o1, o2, o3, o4, o5, o6⟩, hmine, hback, hwd, hQ⟩
    refine ⟨rfl, fun L => ?_⟩
    have Sd := Sp.d
    walk_at "w"
    refine EvalW.list_fz ?_
    walk_at "w"
    refine ⟨by simp, ?_⟩
    refine Cont.next (ExecsW.seq (fun l H' => SRep H' B wd (wakeS st w s).1 ∧ SFrame H H' B ∧ l = [(Str.ofString "_law_s", V.ref B.d), (Str.ofString "_law_word", V.str w.str), (Str.ofString "_law_sender", V.int ((s : Nat) : Int)), (Str.ofString "_law_found", V.lst ((wakeS st w s).2.map lv))]) ?_ ?_)
    · walk_at "w"
      rw [str_back]
      refine ite_w (fun h => ?_) fun h => ?_
      · have hw : w = .back := by simpa using h
        have e0 : wakeS st w s = ({ st with m := { st.m with owed := st.m.owed - 1 }, out := st.out.erase s }, []) := by unfold wakeS; rw [if_pos hw]
        rw [e0]
        walk_at "w"
        refine Sp.putOwed _ fun H1 Sp1 e1 => ?_
        have f1 := (SFrame.refl H B).butd e1
        clear Sd
        have Sd := Sp1.d
        walk_at "w"
        refine ⟨_, MethIs.remove (Sp1.l 4 (by decide)), Plainly.builtin _, ?_⟩
        walk_at "w"
        refine CallW.remove (l := st.out) (Sp1.l 4 (by decide)) (hback hw) (by omega) ?_
        have Sp2 := Sp1.set (i := 4) (by decide) { st with m := { st.m with owed := st.m.owed - 1 }, out := st.out.erase s } rfl (fun j h6 hj => by rcases j with _ | _ | _ | _ | _ | _ | j <;> first | rfl | exact absurd rfl hj | omega)
        have f2 := f1.butl (i := 4) (o := .list (cont { st with m := { st.m with owed := st.m.owed - 1 }, out := st.out.erase s } 4)) (by decide)
        walk_at "w"
        exact ⟨_, ⟨Sp2, f2, rfl⟩, rfl, rfl, rfl, rfl, trivial⟩
      · have hw : w ≠ .back := by simpa using h
        refine ExecsW.cons ?_
        walk_at "w"
        refine ite_w (fun ha => ?_) fun ha => ?_
        · refine ite_t rfl ?_
          have e0 : wakeS st w s = backS st s := by unfold wakeS; rw [if_neg hw, if_pos (by rw [ha]; rfl)]
          rw [e0]
          walk_at "w"
          refine (sent_back5_ok P _).call ⟨B, wd, st, s, rfl, Sp, by omega, fun H1 Sp1 f1 => ?_⟩
          refine BinW.addLF rfl rfl (by simp [backS]) ?_
          walk_at "w"
          exact ⟨_, ⟨Sp1, f1, rfl⟩, rfl, rfl, rfl, rfl, trivial⟩
        · walk_at "w"
          refine CmpW.isNotNone (ov_notCon _) ?_
          walk_at "w"
          rw [ov_isNone]
          refine ite_w (fun hb => ?_) fun hb => ?_
          · refine ite_t rfl ?_
            have e0 : wakeS st w s = backS st s := by
              unfold wakeS; rw [if_neg hw, if_pos]
              cases hk : st.m.waker with
              | none => rw [hk] at hb; cases hb
              | some u => simp
            rw [e0]
            walk_at "w"
            refine (sent_back5_ok P _).call ⟨B, wd, st, s, rfl, Sp, by omega, fun H1 Sp1 f1 => ?_⟩
            refine BinW.addLF rfl rfl (by simp [backS]) ?_
            walk_at "w"
            exact ⟨_, ⟨Sp1, f1, rfl⟩, rfl, rfl, rfl, rfl, trivial⟩
          · walk_at "w"
            refine ite_f rfl ?_
            have e0 : wakeS st w s = ({ st with m := { st.m with waker := some s } }, []) := by
              unfold wakeS; rw [if_neg hw, if_neg]
              cases hk : st.m.waker with
              | none => simpa using ha
              | some u => rw [hk] at hb; cases hb
            rw [e0]
            walk_at "w"
            refine Sp.putWaker (some s) fun H1 Sp1 e1 => ?_
            walk_at "w"
            exact ⟨_, ⟨Sp1, (SFrame.refl H B).butd e1, rfl⟩, rfl, rfl, rfl, rfl, trivial⟩
    rintro l H1 ⟨Sp1, f1, rfl⟩
    clear Sd
    have wm := (wakeS_m st w s).1
    have q1 : (wakeS st w s).1.m.askers.length ≤ 100 := by rw [wm, (wake_sizes st.m w s).1]; exact o1
    have q2 : (wakeS st w s).1.m.heard.length ≤ 100 := by rw [wm, (wake_sizes st.m w s).2.1]; exact o2
    have q3 : (wakeS st w s).1.m.others.length ≤ 100 := by rw [wm, (wake_same st.m w s).others]; exact o3
    have q4 : (wakeS st w s).1.asked.length ≤ 100 := by
      unfold wakeS backS; split
      · exact o4
      · split <;> exact o4
    have q5 : (wakeS st w s).1.out.length ≤ 20000 := by
      unfold wakeS backS; split
      · exact Nat.le_trans (List.length_erase_le ..) o5
      · split <;> exact o5
    have q6 : (wakeS st w s).1.mine.length ≤ 401 := by
      unfold wakeS backS; split
      · exact Nat.le_succ_of_le hmine
      · split
        · show (st.mine ++ _).length ≤ _
          rw [List.length_append]
          split <;> simp <;> omega
        · exact Nat.le_succ_of_le hmine
    have q7 : (wakeS st w s).1.m.freed = false → (wd == Str.ofString "any") = !(wakeS st w s).1.m.isAll := by
      rw [wm, (wake_sameB st.m w s).freed]
      intro h
      have : (wakeM st.m w s).1.isAll = st.m.isAll := by unfold HandM.isAll; rw [(wake_same st.m w s).wait]
      rw [this]; exact hwd h
    have q8 : (wakeS st w s).2.length ≤ 1 := by rw [(wakeS_m st w s).2]; exact (wake_sizes st.m w s).2.2
    have cm : comeS st w s = endS (midS (wakeS st w s).1 w s).1 ((wakeS st w s).2 ++ (midS (wakeS st w s).1 w s).2) := rfl
    generalize (wakeS st w s).1 = t1 at Sp1 q1 q2 q3 q4 q5 q6 q7 cm wm
    generalize (wakeS st w s).2 = g1 at q8 cm
    clear wm
    have Sd := Sp1.d
    refine ExecsW.seq (fun l H' => SRep H' B wd (if w = .ask then askS t1 s else (t1, [])).1 ∧ SFrame H H' B ∧ l = [(Str.ofString "_law_s", V.ref B.d), (Str.ofString "_law_word", V.str w.str), (Str.ofString "_law_sender", V.int ((s : Nat) : Int)), (Str.ofString "_law_found", V.lst ((g1 ++ (if w = .ask then askS t1 s else (t1, [])).2).map lv))]) ?_ ?_
    · walk_at "w"
      rw [str_ask]
      refine ite_w (fun h => ?_) fun h => ?_
      · have hw : w = .ask := by simpa using h
        simp only [hw, if_true]
        walk_at "w"
        refine ⟨_, MethIs.append (Sp1.l 2 (by decide)), Plainly.builtin _, ?_⟩
        walk_at "w"
        refine CallW.append (Sp1.l 2 (by decide)) (by simp only [cont, List.length_map]; omega) ?_
        have Sp2 := Sp1.set (i := 2) (by decide) { t1 with asked := t1.asked ++ [s] } rfl (fun j h6 hj => by rcases j with _ | _ | _ | _ | _ | _ | j <;> first | rfl | exact absurd rfl hj | omega)
        have f2 := f1.butl (i := 2) (o := .list (cont { t1 with asked := t1.asked ++ [s] } 2)) (by decide)
        rw [show cont t1 2 ++ [V.int ((s : Nat) : Int)] = cont { t1 with asked := t1.asked ++ [s] } 2 by simp [cont, nv]]
        generalize H1.set (B.f 2) (.list (cont { t1 with asked := t1.asked ++ [s] } 2)) = H2 at Sp2 f2
        clear Sd
        have Sd := Sp2.d
        walk_at "w"
        refine ite_w (fun hf => ?_) fun hf => ?_
        · have hf : t1.m.freed = true := hf
          have e0 : askS t1 s = sentS { t1 with asked := t1.asked ++ [s] } .freed [s] := by unfold askS; rw [if_pos hf]
          rw [e0]
          walk_at "w"
          refine EvalW.list ?_
          walk_at "w"
          refine ⟨by simp, fun x hx => ?_⟩
          have hx0 := f2.none Sp2 hx
          have Sp3 := Sp2.le (Hp.le_set (o := .list [V.int ((s : Nat) : Int)]) hx)
          walk_at "w"
          refine (sent5_ok P _).call ⟨B, wd, _, .freed, [s], x, rfl, Sp3, Hp.set_self .., (Hp.ne (Sp2.l 4 (by decide)) hx).symm, (Hp.ne (Sp2.l 5 (by decide)) hx).symm, by simp, by show t1.out.length ≤ _; omega, by show t1.mine.length ≤ _; omega, fun H3 Sp4 f4 => ?_⟩
          refine BinW.addLF rfl rfl (by simp [sentS, sendM]; omega) ?_
          walk_at "w"
          refine ⟨_, ⟨Sp4, (f2.set hx0).trans f4, rfl⟩, rfl, rfl, rfl, ?_, trivial⟩
          show some (V.lst _) = some (V.lst _)
          rw [List.map_append]
        · have hf : t1.m.freed = false := hf
          walk_at "w"
          refine ⟨_, MethIs.append (Sp2.l 1 (by decide)), Plainly.builtin _, ?_⟩
          walk_at "w"
          refine CallW.append (Sp2.l 1 (by decide)) (by simp only [cont, List.length_map]; omega) ?_
          have Sp3 := Sp2.set (i := 1) (by decide) { t1 with asked := t1.asked ++ [s], m := { t1.m with askers := t1.m.askers ++ [s] } } rfl (fun j h6 hj => by rcases j with _ | _ | _ | _ | _ | _ | j <;> first | rfl | exact absurd rfl hj | omega)
          have f3 := f2.butl (i := 1) (o := .list (cont { t1 with asked := t1.asked ++ [s], m := { t1.m with askers := t1.m.askers ++ [s] } } 1)) (by decide)
          rw [show cont { t1 with asked := t1.asked ++ [s] } 1 ++ [V.int ((s : Nat) : Int)] = cont { t1 with asked := t1.asked ++ [s], m := { t1.m with askers := t1.m.askers ++ [s] } } 1 by simp [cont, nv]]
          generalize H2.set (B.f 1) (.list (cont { t1 with asked := t1.asked ++ [s], m := { t1.m with askers := t1.m.askers ++ [s] } } 1)) = H3 at Sp3 f3
          clear Sd
          have Sd := Sp3.d
          walk_at "w"
          refine ite_w (fun hh => ?_) fun hh => ?_
          · have hh : t1.m.has = false := by simpa using hh
            have e0 : askS t1 s = sentS { t1 with asked := t1.asked ++ [s], m := { t1.m with askers := t1.m.askers ++ [s], has := true } } .ask t1.m.others := by unfold askS; rw [if_neg (by rw [hf]; decide), if_neg (by rw [hh]; decide)]
            rw [e0]
            walk_at "w"
            refine Sp3.putHas true fun H4 Sp4 e4 => ?_
            clear Sd
            have Sd := Sp4.d
            walk_at "w"
            refine (sent5_ok P _).call ⟨B, wd, _, .ask, t1.m.others, B.f 0, rfl, Sp4, Sp4.l 0 (by decide), Sp4.ne 0 4 (by decide) (by decide) (by decide), Sp4.ne 0 5 (by decide) (by decide) (by decide), by omega, by show t1.out.length ≤ _; omega, by show t1.mine.length ≤ _; omega, fun H5 Sp5 f5 => ?_⟩
            refine BinW.addLF rfl rfl (by simp [sentS, sendM]; omega) ?_
            walk_at "w"
            refine ⟨_, ⟨Sp5, (f3.butd e4).trans f5, rfl⟩, rfl, rfl, rfl, ?_, trivial⟩
            show some (V.lst _) = some (V.lst _)
            rw [List.map_append]
          · have hh : t1.m.has = true := by simpa using hh
            have e0 : askS t1 s = ({ t1 with asked := t1.asked ++ [s], m := { t1.m with askers := t1.m.askers ++ [s] } }, []) := by unfold askS; rw [if_neg (by rw [hf]; decide), if_pos hh]
            rw [e0]
            walk_at "w"
            refine ⟨_, ⟨Sp3, f3, rfl⟩, rfl, rfl, rfl, ?_, trivial⟩
            show some (V.lst _) = some (V.lst _)
            rw [List.append_nil]
      · have hw : w ≠ .ask := by simpa using h
        simp only [hw, if_false, List.append_nil]
        walk_at "w"
        exact ⟨_, ⟨Sp1, f1, rfl⟩, rfl, rfl, rfl, rfl, trivial⟩
    clear Sp1 f1 Sd H1
    rintro l H1 ⟨Sp1, f1, rfl⟩
    have Sd := Sp1.d
    refine ExecsW.seq (fun l H' => SRep H' B wd (midS t1 w s).1 ∧ SFrame H H' B ∧ l = [(Str.ofString "_law_s", V.ref B.d), (Str.ofString "_law_found", V.lst ((g1 ++ (midS t1 w s).2).map lv))]) ?_ ?_
    · walk_at "w"
      rw [str_freed]
      refine ite_w (fun h => ?_) fun h => ?_
      · have hw : w = .freed := by simpa using h
        subst hw
        simp only [show ¬ (LW.freed = LW.ask) by decide, if_false, List.append_nil] at Sp1 Sd ⊢
        walk_at "w"
        refine ⟨_, MethIs.append (Sp1.l 3 (by decide)), Plainly.builtin _, ?_⟩
        walk_at "w"
        refine CallW.append (Sp1.l 3 (by decide)) (by simp only [cont, List.length_map, List.length_reverse]; omega) ?_
        have Sp2 := Sp1.set (i := 3) (by decide) { t1 with m := { t1.m with heard := s :: t1.m.heard } } rfl (fun j h6 hj => by rcases j with _ | _ | _ | _ | _ | _ | j <;> first | rfl | exact absurd rfl hj | omega)
        have f2 := f1.butl (i := 3) (o := .list (cont { t1 with m := { t1.m with heard := s :: t1.m.heard } } 3)) (by decide)
        rw [show cont t1 3 ++ [V.int ((s : Nat) : Int)] = cont { t1 with m := { t1.m with heard := s :: t1.m.heard } } 3 by simp [cont, nv]]
        generalize H1.set (B.f 3) (.list (cont { t1 with m := { t1.m with heard := s :: t1.m.heard } } 3)) = H2 at Sp2 f2
        clear Sd
        have Sd := Sp2.d
        have no : (!t1.m.freed && (!t1.m.isAll || decide ((s :: t1.m.heard).length = t1.m.others.length))) = false → midS t1 .freed s = ({ t1 with m := { t1.m with heard := s :: t1.m.heard } }, []) := fun q => by
          show toldS t1 s = _
          unfold toldS; rw [if_neg (by rw [q]; decide)]
        have yes : (!t1.m.freed && (!t1.m.isAll || decide ((s :: t1.m.heard).length = t1.m.others.length))) = true → midS t1 .freed s = sentS { t1 with m := { t1.m with heard := s :: t1.m.heard, freed := true } } .freed t1.m.askers := fun q => by
          show toldS t1 s = _
          unfold toldS; rw [if_pos q]
        refine ExecsW.cons ?_
        refine ExecW.if_ ?_
        walk_at "w"
        refine ite_w (fun hf => ?_) fun hf => ?_
        · have hf : t1.m.freed = false := by simpa using hf
          walk_at "w"
          rw [q7 hf]
          refine ite_w (fun ha => ?_) fun ha => ?_
          · have cond : (!t1.m.freed && (!t1.m.isAll || decide ((s :: t1.m.heard).length = t1.m.others.length))) = true := by rw [hf, ha]; rfl
            walk_at "w"
            refine ite_t rfl ?_
            walk_at "w"
            refine ite_t rfl ?_
            rw [yes cond]
            walk_at "w"
            refine Sp2.putFree true fun H3 Sp3 e3 => ?_
            clear Sd
            have Sd := Sp3.d
            walk_at "w"
            refine (sent5_ok P _).call ⟨B, wd, _, .freed, t1.m.askers, B.f 1, rfl, Sp3, Sp3.l 1 (by decide), Sp3.ne 1 4 (by decide) (by decide) (by decide), Sp3.ne 1 5 (by decide) (by decide) (by decide), by omega, by show t1.out.length ≤ _; omega, by show t1.mine.length ≤ _; omega, fun H4 Sp4 f4 => ?_⟩
            refine BinW.addLF rfl rfl (by simp [sentS, sendM]; omega) ?_
            walk_at "w"
            refine ⟨_, ⟨Sp4, (f2.butd e3).trans f4, rfl⟩, rfl, ?_, trivial⟩
            show some (V.lst _) = some (V.lst _)
            rw [List.map_append]
          · have ha : t1.m.isAll = true := by simpa using ha
            walk_at "w"
            refine CallW.len (lview_ref (Sp2.l 3 (by decide))) (by simp only [cont, List.length_map, List.length_reverse, List.length_cons]; omega) ?_
            walk_at "w"
            refine CallW.len (lview_ref (Sp2.l 0 (by decide))) (by simp only [cont, List.length_map]; show t1.m.others.length ≤ _; omega) ?_
            walk_at "w"
            have le : (((cont { t1 with m := { t1.m with heard := s :: t1.m.heard } } 3).length : Int) == ((cont { t1 with m := { t1.m with heard := s :: t1.m.heard } } 0).length : Int)) = decide ((s :: t1.m.heard).length = t1.m.others.length) := by
              have e1 : (cont { t1 with m := { t1.m with heard := s :: t1.m.heard } } 3).length = (s :: t1.m.heard).length := by simp [cont]
              have e2 : (cont { t1 with m := { t1.m with heard := s :: t1.m.heard } } 0).length = t1.m.others.length := by simp [cont]; rfl
              rw [e1, e2, Bool.eq_iff_iff, beq_iff_eq, decide_eq_true_eq]; omega
            rw [le]
            refine ite_w (fun hb => ?_) fun hb => ?_
            · have cond : (!t1.m.freed && (!t1.m.isAll || decide ((s :: t1.m.heard).length = t1.m.others.length))) = true := by rw [hf, ha, hb]; rfl
              walk_at "w"
              refine ite_t rfl ?_
              walk_at "w"
              refine ite_t rfl ?_
              rw [yes cond]
              walk_at "w"
              refine Sp2.putFree true fun H3 Sp3 e3 => ?_
              clear Sd
              have Sd := Sp3.d
              walk_at "w"
              refine (sent5_ok P _).call ⟨B, wd, _, .freed, t1.m.askers, B.f 1, rfl, Sp3, Sp3.l 1 (by decide), Sp3.ne 1 4 (by decide) (by decide) (by decide), Sp3.ne 1 5 (by decide) (by decide) (by decide), by omega, by show t1.out.length ≤ _; omega, by show t1.mine.length ≤ _; omega, fun H4 Sp4 f4 => ?_⟩
              refine BinW.addLF rfl rfl (by simp [sentS, sendM]; omega) ?_
              walk_at "w"
              refine ⟨_, ⟨Sp4, (f2.butd e3).trans f4, rfl⟩, rfl, ?_, trivial⟩
              show some (V.lst _) = some (V.lst _)
              rw [List.map_append]
            · have cond : (!t1.m.freed && (!t1.m.isAll || decide ((s :: t1.m.heard).length = t1.m.others.length))) = false := by rw [hf, ha, hb]; rfl
              walk_at "w"
              refine ite_f rfl ?_
              refine ite_f rfl ?_
              rw [no cond]
              walk_at "w"
              refine ⟨_, ⟨Sp2, f2, rfl⟩, rfl, ?_, trivial⟩
              show some (V.lst _) = some (V.lst _)
              rw [List.append_nil]
        · have cond : (!t1.m.freed && (!t1.m.isAll || decide ((s :: t1.m.heard).length = t1.m.others.length))) = false := by
            have : t1.m.freed = true := by simpa using hf
            rw [this]; rfl
          refine ite_f rfl ?_
          rw [no cond]
          walk_at "w"
          refine ⟨_, ⟨Sp2, f2, rfl⟩, rfl, ?_, trivial⟩
          show some (V.lst _) = some (V.lst _)
          rw [List.append_nil]
      · have hw : w ≠ .freed := by simpa using h
        walk_at "w"
        have e3 : midS t1 w s = (if w = .ask then askS t1 s else (t1, [])) := by
          cases w
          · rfl
          · exact absurd rfl hw
          · rfl
        rw [e3]
        exact ⟨_, ⟨Sp1, f1, rfl⟩, rfl, rfl, trivial⟩
    clear Sp1 f1 Sd H1
    rintro l H1 ⟨Sp1, f1, rfl⟩
    have Sd := Sp1.d
    have ms := mid_sizes t1.m w s
    have mr := midS_rel t1 w s
    have mL : (midS t1 w s).2.length ≤ 300 := by
      cases w
      · show (askS t1 s).2.length ≤ _
        unfold askS; split
        · simp [sentS, sendM]
        · split
          · simp
          · simp [sentS, sendM]; omega
      · show (toldS t1 s).2.length ≤ _
        unfold toldS; split
        · simp [sentS, sendM]; omega
        · simp
      · simp [midS]
    have mM : (midS t1 w s).1.mine.length ≤ 700 := by
      have fl : ∀ (p : Nat → Bool) (l : List Nat) (w : LW), l.length ≤ 100 → (t1.mine ++ (l.filter p).map fun _ => w).length ≤ 700 := fun p l w hl => by
        rw [List.length_append, List.length_map]
        have := List.length_filter_le p l
        omega
      cases w
      · show (askS t1 s).1.mine.length ≤ _
        unfold askS; split
        · exact fl _ [s] _ (by simp)
        · split
          · show t1.mine.length ≤ _; omega
          · exact fl _ t1.m.others _ q3
      · show (toldS t1 s).1.mine.length ≤ _
        unfold toldS; split
        · exact fl _ t1.m.askers _ q1
        · show t1.mine.length ≤ _; omega
      · show t1.mine.length ≤ _; omega
    have gl : (g1 ++ (midS t1 w s).2).length ≤ 400 := by rw [List.length_append]; omega
    generalize (midS t1 w s).1 = t2 at Sp1 Sd cm mM mr
    generalize g1 ++ (midS t1 w s).2 = g2 at cm gl
    walk_at "w"
    refine ite_w (fun h0 => ?_) fun h0 => ?_
    · walk_at "w"
      refine CmpW.isNotNone (ov_notCon _) ?_
      walk_at "w"
      rw [ov_isNone]
      have e0 : t2.m.owed = 0 := by simpa using h0
      cases hk : t2.m.waker with
      | some u =>
        refine ite_t rfl ?_
        walk_at "w"
        refine ite_t rfl ?_
        have e4 : comeS st w s = ({ (backS t2 u).1 with m := { t2.m with waker := none } }, g2 ++ [(.back, t2.m.num, u)]) := by rw [cm]; unfold endS; rw [hk]; simp [e0]
        walk_at "w"
        rw [hk]
        refine (sent_back5_ok P _).call ⟨B, wd, t2, u, rfl, Sp1, by omega, fun H2 Sp2 f2 => ?_⟩
        refine BinW.addLF rfl rfl (by simp [backS]; omega) ?_
        clear Sd
        have Sd := Sp2.d
        walk_at "w"
        refine Sp2.putWaker none fun H3 Sp3 e3 => ?_
        walk_at "w"
        have z := hQ H3 (by rw [e4]; exact Sp3) ((f1.trans f2).butd e3)
        rw [e4] at z
        refine RetQ.here ?_
        simpa [backS] using z
      | none =>
        refine ite_f rfl ?_
        refine ite_f rfl ?_
        walk_at "w"
        have e4 : comeS st w s = (t2, g2) := by rw [cm]; unfold endS; rw [hk]
        have z := hQ H1 (by rw [e4]; exact Sp1) f1
        rw [e4] at z
        exact RetQ.here z
    · refine ite_f rfl ?_
      walk_at "w"
      have e0 : t2.m.owed ≠ 0 := by simpa using h0
      have e4 : comeS st w s = (t2, g2) := by
        rw [cm]; unfold endS
        cases hk : t2.m.waker with
        | none => rfl
        | some u => simp [e0]
      have z := hQ H1 (by rw [e4]; exact Sp1) f1
      rw [e4] at z
      exact RetQ.here z
variable {C : Cx}
def S_letter5 : SpecT := fun args Q R H => ∃ (B : SA) (wd : Str) (st : S5) (cell : Int), args = [.ref B.d, .int cell] ∧ SRep H B wd st ∧ SOk st ∧ st.out.length ≤ 900 ∧ Inv5 st ∧
  (∀ w s st' H', Pre5 st' w s → st'.m = st.m → st'.asked = st.asked → st'.out = st.out → st'.mine.length ≤ st.mine.length → SRep H' B wd st' → SFrame H H' B → Q (.tup [.str w.str, .int ((s : Nat) : Int)]) H') ∧
  Q (.tup [.str (Str.ofString ""), .int 0]) H
theorem pick_nat {l : List Nat} (cell : Int) (hn : l ≠ []) : ∃ x, x ∈ l ∧ (l.map nv)[(cell % (((l.map nv).length : Nat) : Int)).toNat]? = some (.int ((x : Nat) : Int)) ∧ 0 ≤ cell % (((l.map nv).length : Nat) : Int) := by
  have hp : 0 < l.length := List.length_pos_iff.mpr hn
  have h1 := Int.emod_nonneg cell (b := ((l.length : Nat) : Int)) (by omega)
  have h2 := Int.emod_lt_of_pos cell (b := ((l.length : Nat) : Int)) (by omega)
  rw [List.length_map]
  have hlt : (cell % ((l.length : Nat) : Int)).toNat < l.length := by omega
  refine ⟨l[(cell % ((l.length : Nat) : Int)).toNat], List.getElem_mem hlt, ?_, h1⟩
  rw [List.getElem?_map, List.getElem?_eq_getElem hlt]; rfl

set_option maxHeartbeats 8000000 in
theorem letter5_ok (P : PCx C (K5 C)) (k : Nat) : FnOK C (k + 1) (.ref 109) S_letter5 := by
  have hc := handC C
  refine FnOK.ofS (K := K5 C) [Str.ofString "_law_s", Str.ofString "_law_cell"] P.X P.lim rfl rfl (by kernel_rfl) ?_ (by kernel_rfl) (by kernel_rfl) ?_
  · intro vals h
    rcases vals with _ | ⟨a, _ | ⟨b, _ | ⟨c, t⟩⟩⟩ <;> simp at h
    rfl
  · rintro args Q R H ⟨B, wd, st, cell, rfl, Sp, ⟨o1, o2, o3, o4, o5, o6⟩, o7, I, hQ, hQ0⟩
    refine ⟨rfl, fun L => ?_⟩
    have Sd := Sp.d
    have l0 : lview H (.ref (B.f 0)) = some (st.m.others.map nv) := lview_ref (Sp.l 0 (by decide))
    have l2 : lview H (.ref (B.f 2)) = some (st.asked.map nv) := lview_ref (Sp.l 2 (by decide))
    have l3 : lview H (.ref (B.f 3)) = some (st.m.heard.reverse.map nv) := lview_ref (Sp.l 3 (by decide))
    have l4 : lview H (.ref (B.f 4)) = some (st.out.map nv) := lview_ref (Sp.l 4 (by decide))
    have l5 : lview H (.ref (B.f 5)) = some (st.mine.map (mvL st.m.num)) := lview_ref (Sp.l 5 (by decide))
    walk_at "w"
    refine ExecW.assign_compP (gN fun n => if (!decide (n ∈ st.asked) && decide (n ≠ st.m.num)) = true then some (nv n) else none) rfl rfl P.hd rfl ?_
    refine IterE.range (P.blt (by kernel_rfl) (by boot_fast)) rfl ?_
    walk_at "w"
    refine ⟨_, rfl, by decide, by decide, ?_⟩
    refine ⟨by decide +kernel, fun _ _ => trivial, ?_, ?_⟩
    · intro v hv H' hle
      rw [rangeV_nv] at hv
      obtain ⟨x, hx, rfl⟩ := List.mem_map.mp hv
      have Sd := (Sp.le hle).d
      refine PureStep.filt rfl fun L' => ?_
      simp only [nv]
      walk_at "w"
      refine CmpW.notInN (lview_le hle l2) (by omega) ?_
      rw [Int.toNat_natCast]
      walk_at "w"
      refine ite_w (fun h1 => ?_) fun h1 => ?_
      · walk_at "w"
        refine ite_w (fun h2 => ?_) fun h2 => ?_
        · have hx : ¬ x = st.m.num := ne_t h2
          walk_at "w"
          refine ⟨rfl, ite_t rfl ?_⟩
          walk_at "w"
          refine ⟨rfl, ?_⟩
          rw [gN_nv, h1]; simp [hx, nv]
        · have hx : x = st.m.num := ne_f h2
          refine ⟨rfl, ite_f rfl ?_⟩
          rw [gN_nv]; simp [hx]
      · refine ⟨rfl, ite_f rfl ?_⟩
        rw [gN_nv, h1]; rfl
    rw [show rangeV (40 : Int).toNat = (List.range 40).map nv from rfl, fm_gN, fm_filter]
    obtain ⟨senders, hse⟩ : ∃ l, l = (List.range 40).filter fun n => (!decide (n ∈ st.asked) && decide (n ≠ st.m.num)) := ⟨_, rfl⟩
    rw [← hse]
    walk_at "w"
    refine ExecW.assign_compP (gN fun n => if (st.m.has && (!decide (n ∈ st.m.heard) && decide (n ≠ st.m.num))) = true then some (nv n) else none) rfl rfl P.hd rfl ?_
    refine IterE.list ?_
    walk_at "w"
    refine ⟨_, l0, by simp; omega, fun _ hle => lcond_le l0 hle, ?_, ?_⟩
    · intro v hv H' hle
      obtain ⟨x, hx, rfl⟩ := List.mem_map.mp hv
      have Sd := (Sp.le hle).d
      refine PureStep.filt rfl fun L' => ?_
      simp only [nv]
      walk_at "w"
      refine ite_w (fun h0 => ?_) fun h0 => ?_
      · walk_at "w"
        refine CmpW.notInN (lview_le hle l3) (by omega) ?_
        rw [Int.toNat_natCast, show decide (x ∈ st.m.heard.reverse) = decide (x ∈ st.m.heard) by simp]
        walk_at "w"
        refine ite_w (fun h1 => ?_) fun h1 => ?_
        · walk_at "w"
          refine ite_w (fun h2 => ?_) fun h2 => ?_
          · have hx : ¬ x = st.m.num := ne_t h2
            walk_at "w"
            refine ⟨rfl, ite_t rfl ?_⟩
            walk_at "w"
            refine ⟨rfl, ?_⟩
            rw [gN_nv, h0, h1]; simp [hx, nv]
          · have hx : x = st.m.num := ne_f h2
            refine ⟨rfl, ite_f rfl ?_⟩
            rw [gN_nv]; simp [hx]
        · refine ⟨rfl, ite_f rfl ?_⟩
          rw [gN_nv, h1]; simp
      · refine ⟨rfl, ite_f rfl ?_⟩
        rw [gN_nv, h0]; rfl
    rw [fm_gN, fm_filter]
    obtain ⟨tellers, hte⟩ : ∃ l, l = st.m.others.filter fun n => (st.m.has && (!decide (n ∈ st.m.heard) && decide (n ≠ st.m.num))) := ⟨_, rfl⟩
    rw [← hte]
    walk_at "w"
    refine ExecW.assign_compP (gN fun n => if decide (n ≠ st.m.num) = true then some (nv n) else none) rfl rfl P.hd rfl ?_
    refine IterE.list ?_
    walk_at "w"
    refine ⟨_, l4, by simp; omega, fun _ hle => lcond_le l4 hle, ?_, ?_⟩
    · intro v hv H' hle
      obtain ⟨x, hx, rfl⟩ := List.mem_map.mp hv
      have Sd := (Sp.le hle).d
      refine PureStep.filt rfl fun L' => ?_
      simp only [nv]
      walk_at "w"
      refine ⟨rfl, ?_⟩
      refine ite_w (fun h2 => ?_) fun h2 => ?_
      · have hx : ¬ x = st.m.num := ne_t h2
        walk_at "w"
        refine ⟨rfl, ?_⟩
        rw [gN_nv]; simp [hx, nv]
      · have hx : x = st.m.num := ne_f h2
        rw [gN_nv]; simp [hx]
    rw [fm_gN, fm_filter]
    obtain ⟨outs, hou⟩ : ∃ l, l = st.out.filter fun n => decide (n ≠ st.m.num) := ⟨_, rfl⟩
    rw [← hou]
    have sl : senders.length ≤ 1000 := by rw [hse]; exact Nat.le_trans (List.length_filter_le ..) (by simp)
    have tl : tellers.length ≤ 1000 := by rw [hte]; exact Nat.le_trans (List.length_filter_le ..) (by omega)
    have ol : outs.length ≤ 20000 := by rw [hou]; exact Nat.le_trans (List.length_filter_le ..) (by omega)
    refine Cont.next (ExecsW.seq (fun l H' => H' = H ∧ l = [(Str.ofString "_law_s", V.ref B.d), (Str.ofString "_law_cell", V.int cell), (Str.ofString "_law_senders", V.lst (senders.map nv)), (Str.ofString "_law_tellers", V.lst (tellers.map nv)), (Str.ofString "_law_out", V.lst (outs.map nv))]) ?_ ?_)
    · walk_at "w"
      refine ite_w (fun h1 => ?_) fun h1 => ?_
      · walk_at "w"
        refine EvalW.list_fz ?_
        walk_at "w"
        refine ⟨by simp, ?_⟩
        refine CmpW.neM0 l5 rfl ?_
        walk_at "w"
        refine ite_w (fun h2 => ?_) fun h2 => ?_
        · have hne : st.mine ≠ [] := by simpa using h2
          have hp : 0 < st.mine.length := List.length_pos_iff.mpr hne
          walk_at "w"
          refine ite_t rfl ?_
          walk_at "w"
          refine ⟨_, MethIs.pop (Sp.l 5 (by decide)), Plainly.builtin _, ?_⟩
          walk_at "w"
          refine CallW.len l5 (by simp only [List.length_map]; omega) ?_
          rw [List.length_map]
          walk_at "v"
          have hm1 := Int.emod_nonneg (cell / 12) (b := ((st.mine.length : Nat) : Int)) (by omega)
          have hm2 := Int.emod_lt_of_pos (cell / 12) (b := ((st.mine.length : Nat) : Int)) (by omega)
          obtain ⟨i, hi⟩ : ∃ i : Nat, (i : Int) = cell / 12 % ((st.mine.length : Nat) : Int) := ⟨_, Int.toNat_of_nonneg hm1⟩
          rw [← hi]
          have hil : i < st.mine.length := by omega
          obtain ⟨w, hw⟩ : ∃ w, st.mine[i]? = some w := ⟨_, List.getElem?_eq_getElem hil⟩
          walk_at "w"
          refine CallW.popAt (Sp.l 5 (by decide)) (by omega) (by omega) (u := mvL st.m.num w) (by simp [cont, hw]) (by simp only [cont, List.length_map]; omega) ?_
          have Sp1 := Sp.set (i := 5) (by decide) { st with mine := st.mine.eraseIdx i } rfl (fun j h6 hj => by rcases j with _ | _ | _ | _ | _ | _ | j <;> first | rfl | exact absurd rfl hj | omega)
          have f1 := (SFrame.refl H B).butl (i := 5) (o := .list (cont { st with mine := st.mine.eraseIdx i } 5)) (by decide)
          rw [show (cont st 5).eraseIdx ((i : Nat) : Int).toNat = cont { st with mine := st.mine.eraseIdx i } 5 by rw [Int.toNat_natCast]; simp only [cont]; rw [map_eraseIdx']]
          refine RetQ.here (ρ := fun _ => Option.none) ?_
          exact hQ w st.m.num _ _ (I.popped hw) rfl rfl rfl (List.length_eraseIdx_le ..) Sp1 f1
        · refine ite_f rfl ?_
          walk_at "w"
          exact ⟨_, ⟨rfl, rfl⟩, rfl, rfl, rfl, rfl, rfl, trivial⟩
      · refine ite_f rfl ?_
        walk_at "w"
        exact ⟨_, ⟨rfl, rfl⟩, rfl, rfl, rfl, rfl, rfl, trivial⟩
    rintro l H0 ⟨rfl, rfl⟩
    refine ExecsW.seq (fun l H' => H' = H0 ∧ l = [(Str.ofString "_law_s", V.ref B.d), (Str.ofString "_law_cell", V.int cell), (Str.ofString "_law_senders", V.lst (senders.map nv)), (Str.ofString "_law_tellers", V.lst (tellers.map nv))]) ?_ ?_
    · walk_at "w"
      refine ite_w (fun h1 => ?_) fun h1 => ?_
      · walk_at "w"
        refine EvalW.list_fz ?_
        walk_at "w"
        refine ⟨by simp, ?_⟩
        refine CmpW.neN rfl lview_nv0 ?_
        walk_at "w"
        refine ite_w (fun h2 => ?_) fun h2 => ?_
        · have hne : outs ≠ [] := by simpa using h2
          have hp : 0 < outs.length := List.length_pos_iff.mpr hne
          obtain ⟨x, hx, gx, g0⟩ := pick_nat (cell / 3) hne
          walk_at "w"
          refine ite_t rfl ?_
          walk_at "w"
          refine CallW.len rfl (by simp only [List.length_map]; omega) ?_
          have hp' : 0 < (outs.map nv).length := by simpa using hp
          walk_at "w"
          refine SubW.list rfl g0 (by have := Int.emod_lt_of_pos (cell / 3) (b := (((outs.map nv).length : Nat) : Int)) (by omega); simp only [List.length_map] at this ⊢; omega) gx ?_
          walk_at "w"
          refine ⟨?_, by simp⟩
          rw [hou] at hx
          have hx' := List.mem_filter.mp hx
          refine RetQ.here (ρ := fun _ => Option.none) ?_
          exact hQ .back x st H0 (I.other (by simpa using hx'.2) (fun _ => hx'.1) (fun e => by cases e)) rfl rfl rfl (Nat.le_refl _) Sp (SFrame.refl H0 B)
        · refine ite_f rfl ?_
          walk_at "w"
          exact ⟨_, ⟨rfl, rfl⟩, rfl, rfl, rfl, rfl, trivial⟩
      · refine ite_f rfl ?_
        walk_at "w"
        exact ⟨_, ⟨rfl, rfl⟩, rfl, rfl, rfl, rfl, trivial⟩
    rintro l H0 ⟨rfl, rfl⟩
    refine ExecsW.seq (fun l H' => H' = H0 ∧ l = [(Str.ofString "_law_s", V.ref B.d), (Str.ofString "_law_cell", V.int cell), (Str.ofString "_law_senders", V.lst (senders.map nv))]) ?_ ?_
    · walk_at "w"
      refine ite_w (fun h1 => ?_) fun h1 => ?_
      · walk_at "w"
        refine EvalW.list_fz ?_
        walk_at "w"
        refine ⟨by simp, ?_⟩
        refine CmpW.neN rfl lview_nv0 ?_
        walk_at "w"
        refine ite_w (fun h2 => ?_) fun h2 => ?_
        · have hne : tellers ≠ [] := by simpa using h2
          have hp : 0 < tellers.length := List.length_pos_iff.mpr hne
          obtain ⟨x, hx, gx, g0⟩ := pick_nat (cell / 3) hne
          walk_at "w"
          refine ite_t rfl ?_
          walk_at "w"
          refine CallW.len rfl (by simp only [List.length_map]; omega) ?_
          have hp' : 0 < (tellers.map nv).length := by simpa using hp
          walk_at "w"
          refine SubW.list rfl g0 (by have := Int.emod_lt_of_pos (cell / 3) (b := (((tellers.map nv).length : Nat) : Int)) (by omega); simp only [List.length_map] at this ⊢; omega) gx ?_
          walk_at "w"
          refine ⟨?_, by simp⟩
          rw [hte] at hx
          have hx' := List.mem_filter.mp hx
          have hx2 := hx'.2
          simp only [Bool.and_eq_true, Bool.not_eq_true', decide_eq_false_iff_not, decide_eq_true_eq] at hx2
          refine RetQ.here (ρ := fun _ => Option.none) ?_
          exact hQ .freed x st H0 (I.other hx2.2.2 (fun e => by cases e) (fun _ => ⟨hx'.1, hx2.2.1⟩)) rfl rfl rfl (Nat.le_refl _) Sp (SFrame.refl H0 B)
        · refine ite_f rfl ?_
          walk_at "w"
          exact ⟨_, ⟨rfl, rfl⟩, rfl, rfl, rfl, trivial⟩
      · refine ite_f rfl ?_
        walk_at "w"
        exact ⟨_, ⟨rfl, rfl⟩, rfl, rfl, rfl, trivial⟩
    rintro l H0 ⟨rfl, rfl⟩
    walk_at "w"
    refine EvalW.list_fz ?_
    walk_at "w"
    refine ⟨by simp, ?_⟩
    refine CmpW.neN rfl lview_nv0 ?_
    walk_at "w"
    refine ite_w (fun h2 => ?_) fun h2 => ?_
    · have hne : senders ≠ [] := by simpa using h2
      have hp : 0 < senders.length := List.length_pos_iff.mpr hne
      obtain ⟨x, hx, gx, g0⟩ := pick_nat (cell / 3 * 48271 % 10007) hne
      walk_at "w"
      refine CallW.len rfl (by simp only [List.length_map]; omega) ?_
      have hp' : 0 < (senders.map nv).length := by simpa using hp
      walk_at "w"
      refine SubW.list rfl g0 (by have := Int.emod_lt_of_pos (cell / 3 * 48271 % 10007) (b := (((senders.map nv).length : Nat) : Int)) (by omega); simp only [List.length_map] at this ⊢; omega) gx ?_
      walk_at "w"
      refine ⟨?_, by simp⟩
      rw [hse] at hx
      have hx' := List.mem_filter.mp hx
      have hx2 := hx'.2
      simp only [Bool.and_eq_true, Bool.not_eq_true', decide_eq_false_iff_not, decide_eq_true_eq] at hx2
      refine RetQ.here (ρ := fun _ => Option.none) ?_
      exact hQ .ask x st H0 (I.other hx2.2 (fun e => by cases e) (fun e => by cases e)) rfl rfl rfl (Nat.le_refl _) Sp (SFrame.refl H0 B)
    · walk_at "w"
      refine ⟨?_, by simp⟩
      exact RetQ.here (ρ := fun _ => Option.none) hQ0
variable {C : Cx}
def othersF (c1 step : Int) (n : Nat) : List Nat := (List.range n).map fun (k : Nat) => ((c1 + (k : Int) * step) % 40).toNat
theorem othersF_nodup (c1 step : Int) (n : Nat) (hs : step = 1 ∨ step = 3 ∨ step = 5) (hn : n ≤ 6) : (othersF c1 step n).Nodup := by
  unfold othersF
  refine List.pairwise_map.mpr (List.Pairwise.imp_of_mem ?_ (List.pairwise_lt_range (n := n)))
  intro a b ha hb hab
  have ha : a < n := by simpa using ha
  have hb : b < n := by simpa using hb
  rcases hs with rfl | rfl | rfl <;> omega
theorem othersF_len (c1 step : Int) (n : Nat) : (othersF c1 step n).length = n := by simp [othersF]
def S_law5 : SpecT := fun args Q R H => ∃ ns : List Int, args = [.lst (ns.map .int)] ∧ ns.length ≤ 100 ∧ ∀ H', Q (.bool true) H'
theorem mk_srep {H : Hp} {d a0 a1 a2 a3 a4 a5 : Addr} {st : S5} {wd : Str} (f : Nat → Addr) (hf : f = fun i => [a0, a1, a2, a3, a4, a5].getD i a5)
    (hd : H d = some (.dictS (Rho.of (sattrs ⟨d, f⟩ st wd)) 13)) (h0 : H a0 = some (.list (cont st 0))) (h1 : H a1 = some (.list (cont st 1))) (h2 : H a2 = some (.list (cont st 2))) (h3 : H a3 = some (.list (cont st 3))) (h4 : H a4 = some (.list (cont st 4))) (h5 : H a5 = some (.list (cont st 5)))
    (n : [a0, a1, a2, a3, a4, a5].Nodup) : SRep H ⟨d, f⟩ wd st := by
  subst hf
  have ge : ∀ i (hi : i < 6), [a0, a1, a2, a3, a4, a5].getD i a5 = [a0, a1, a2, a3, a4, a5][i]'hi := fun i hi => by
    rw [List.getD_eq_getElem?_getD, List.getElem?_eq_getElem (by exact hi)]; rfl
  have pw := List.pairwise_iff_getElem.mp n
  refine ⟨hd, fun i hi => ?_, fun i j hi hj hij => ?_⟩
  · rcases i with _ | _ | _ | _ | _ | _ | i
    · exact h0
    · exact h1
    · exact h2
    · exact h3
    · exact h4
    · exact h5
    · exact absurd hi (by simp)
  · show [a0, a1, a2, a3, a4, a5].getD i a5 ≠ [a0, a1, a2, a3, a4, a5].getD j a5
    rw [ge i hi, ge j hj]
    rcases Nat.lt_or_gt_of_ne hij with q | q
    · exact pw i j hi hj q
    · exact (pw j i hj hi q).symm

theorem HandRep.sframe {c : Addr} {H H' : Hp} {A : HA} {m : HandM} {B : SA} {wd : Str} {st : S5} (r : HandRep c H A m) (s : SRep H B wd st) (f : SFrame H H' B) (sep : ∀ i < 6, B.f i ≠ A.a) : HandRep c H' A m :=
  ⟨f _ _ r.i (Hp.ne' r.i s.d (by simp)) (fun i hi => Hp.ne' r.i (s.l i hi) (by simp)), f _ _ r.d (Hp.ne' r.d s.d (by simp)) (fun i hi => Hp.ne' r.d (s.l i hi) (by simp)), f _ _ r.a (Hp.ne' r.a s.d (by simp)) (fun i hi => (sep i hi).symm), f _ _ r.h (Hp.ne' r.h s.d (by simp)) (fun i hi => Hp.ne' r.h (s.l i hi) (by simp))⟩
theorem SRep.hframe {c : Addr} {H H' : Hp} {A : HA} {m : HandM} {B : SA} {wd : Str} {st : S5} (s : SRep H B wd st) (r : HandRep c H A m) (f : HFrame H H' A) (sep : ∀ i < 6, B.f i ≠ A.a) : SRep H' B wd st :=
  ⟨f _ _ s.d (Hp.ne' s.d r.d (by simp)) (Hp.ne' s.d r.a (by simp)) (Hp.ne' s.d r.h (by simp)), fun i hi => f _ _ (s.l i hi) (Hp.ne' (s.l i hi) r.d (by simp)) (sep i hi) (Hp.ne' (s.l i hi) r.h (by simp)), s.ne⟩
theorem SRep.list {H : Hp} {B : SA} {wd : Str} {st : S5} {x : Addr} {l l' : List V} (s : SRep H B wd st) (hx : H x = some (.list l)) (hn : ∀ i < 6, x ≠ B.f i) : SRep (H.set x (.list l')) B wd st :=
  ⟨(Hp.set_ne (Hp.ne' s.d hx (by simp))).trans s.d, fun i hi => (Hp.set_ne (hn i hi).symm).trans (s.l i hi), s.ne⟩
theorem SFrame.list {H H' : Hp} {B : SA} {wd : Str} {st : S5} {x : Addr} {l : List V} (s : SRep H B wd st) (f : SFrame H H' B) (hx : H x = some (.list l)) (hn : ∀ i < 6, x ≠ B.f i) : H' x = some (.list l) := f x _ hx (Hp.ne' hx s.d (by simp)) hn
def waitF (cell c1 : Int) (n : Nat) : Wt := if n = 0 then none else some (cell % 2 == 0, othersF c1 (1 + 2 * (cell / 21 % 3)) n)
def wordF (cell : Int) : Str := Str.ofString (if (cell % 2 == 0) = true then "all" else "any")
theorem initF_others (num : Nat) (cell c1 : Int) (n : Nat) (b : Bool) : (initM num (waitF cell c1 n) b).others = othersF c1 (1 + 2 * (cell / 21 % 3)) n := by
  unfold initM HandM.others waitF
  dsimp only
  by_cases h : n = 0
  · subst h; rfl
  · rw [if_neg h]

set_option maxHeartbeats 16000000 in
theorem law_ok (P : PCx C (K5 C)) (k : Nat) : FnOK C (k + 8) (.ref 114) S_law5 := by
  have hc := handC C
  refine FnOK.ofS (K := K5 C) [Str.ofString "_law_script"] P.X P.lim rfl rfl (by kernel_rfl) ?_ (by kernel_rfl) (by kernel_rfl) ?_
  · intro vals h
    rcases vals with _ | ⟨a, _ | ⟨b, t⟩⟩ <;> simp at h
    rfl
  · rintro args Q R H ⟨ns, rfl, hn, hQ⟩
    refine ⟨rfl, fun L => ?_⟩
    walk_at "w"
    refine (cell_ok P _).call ⟨ns, 0, rfl, by decide, hn, ?_⟩
    generalize cellV ns 0 = cell
    walk_at "w"
    obtain ⟨n, hnd, hn6⟩ := div7 cell
    rw [← hnd]
    clear hnd
    have hst := step3 cell
    refine ExecW.assign_compO (gN fun (k : Nat) => some (nv ((cellV ns 1 + (k : Int) * (1 + 2 * (cell / 21 % 3))) % 40).toNat)) rfl rfl P.hd rfl ?_
    refine IterE.range (P.blt (by kernel_rfl) (by boot_fast)) rfl ?_
    walk_at "w"
    refine ⟨_, rfl, (n6 hn6).1, (n6 hn6).2, ?_⟩
    rw [Int.toNat_natCast]
    refine ⟨by rw [ints_length]; exact Nat.le_trans hn6 (by decide), fun _ _ => trivial, ?_, fun a0 ha0 => ?_⟩
    · intro v hv H' hle
      rw [rangeV_nv] at hv
      obtain ⟨x, hx, rfl⟩ := List.mem_map.mp hv
      refine PureStep.map rfl fun L' => ?_
      simp only [nv]
      walk_at "w"
      refine (cell_ok P _).call ⟨ns, 1, rfl, by decide, hn, ?_⟩
      walk_at "w"
      refine BinW.mul (IntMulOk.of_right (by rcases hst with e | e | e <;> rw [e] <;> decide)) ?_
      walk_at "w"
      refine ⟨rfl, ?_⟩
      rw [gN_nv]
      show some (V.int _) = some (V.int _)
      rw [Int.toNat_of_nonneg (Int.emod_nonneg _ (by decide))]
    rw [rangeV_nv, fm_gN, fm_map]
    rw [show (List.range n).map (fun (k : Nat) => nv ((cellV ns 1 + (k : Int) * (1 + 2 * (cell / 21 % 3))) % 40).toNat) = (othersF (cellV ns 1) (1 + 2 * (cell / 21 % 3)) n).map nv by unfold othersF; rw [List.map_map]; rfl]
    have hnod := othersF_nodup (cellV ns 1) (1 + 2 * (cell / 21 % 3)) n hst hn6
    clear hst
    have hlen := othersF_len (cellV ns 1) (1 + 2 * (cell / 21 % 3)) n
    have hw0 : waitF cell (cellV ns 1) n = if n = 0 then none else some (cell % 2 == 0, othersF (cellV ns 1) (1 + 2 * (cell / 21 % 3)) n) := rfl
    have hio := fun num b => initF_others num cell (cellV ns 1) n b
    generalize othersF (cellV ns 1) (1 + 2 * (cell / 21 % 3)) n = others at hnod hlen hw0 hio
    have s0 : (H.set a0 (.list (others.map nv))) a0 = some (.list (others.map nv)) := Hp.set_self ..
    generalize H.set a0 (.list (others.map nv)) = G0 at s0
    walk_at "w"
    refine CallW.listCopy (lview_ref s0) (by rw [List.length_map, hlen]; exact Nat.le_trans hn6 (by decide)) fun ah hah => ?_
    have nah : a0 ≠ ah := Hp.ne s0 hah
    have s1 : (G0.set ah (.list (others.map nv))) a0 = some (.list (others.map nv)) := (Hp.set_ne nah).trans s0
    have h1 : (G0.set ah (.list (others.map nv))) ah = some (.list (others.map nv)) := Hp.set_self ..
    generalize G0.set ah (.list (others.map nv)) = G1 at s1 h1
    walk_at "v"
    walk_at "v"
    walk_at "v"
    walk_at "v"
    walk_at "v"
    refine Cont.next (ExecsW.seq (fun l H' => ∃ wV, H' = G1 ∧ WView G1 wV (waitF cell (cellV ns 1) n) ∧ wV.plain = true ∧ l = [(Str.ofString "_law_script", V.lst (ns.map .int)), (Str.ofString "_law_cell", V.int cell), (Str.ofString "_law_many", V.int ((n : Nat) : Int)), (Str.ofString "_law_others", V.ref a0), (Str.ofString "_law_handed", V.ref ah), (Str.ofString "_law_wait", wV)]) ?_ ?_)
    · walk_at "w"
      refine ite_w (fun q => ?_) fun q => ?_
      · have hne : ¬ n = 0 := pos_t q
        walk_at "w"
        refine EvalW.list_fz ?_
        walk_at "w"
        refine ⟨by simp, ?_⟩
        walk_at "w"
        refine SubW.list rfl (z2 cell).1 (z2 cell).2 (u := .str (wordF cell)) ?_ ?_
        · have := z2c cell
          unfold wordF
          rcases this with e | e <;> rw [e] <;> rfl
        walk_at "w"
        refine ⟨?_, by simp⟩
        walk_at "w"
        refine ⟨_, ⟨_, rfl, ?_, rfl, rfl⟩, rfl, rfl, rfl, rfl, rfl, rfl, trivial⟩
        rw [hw0, if_neg hne]
        exact ⟨_, rfl, lview_ref h1⟩
      · have hne : n = 0 := pos_f q
        walk_at "w"
        refine ⟨_, ⟨_, rfl, ?_, rfl, rfl⟩, rfl, rfl, rfl, rfl, rfl, rfl, trivial⟩
        rw [hw0, if_pos hne]; rfl
    rintro l H0 ⟨wV, rfl, hwv, hwp, rfl⟩
    walk_at "w"
    refine (cell_ok P _).call ⟨ns, 2, rfl, by decide, hn, ?_⟩
    walk_at "w"
    refine (cell_ok P _).call ⟨ns, 2, rfl, by decide, hn, ?_⟩
    walk_at "v"
    walk_at "v"
    walk_at "v"
    walk_at "v"
    generalize hc2 : cellV ns 2 = c2
    obtain ⟨nu0, hnu0⟩ := div40 c2
    rw [← hnu0]
    clear hnu0
    generalize (c2 % 2 == 1) = first
    refine Cont.next (ExecsW.seq (fun l H' => ∃ num : Nat, H' = H0 ∧ l = [(Str.ofString "_law_script", V.lst (ns.map .int)), (Str.ofString "_law_cell", V.int cell), (Str.ofString "_law_many", V.int ((n : Nat) : Int)), (Str.ofString "_law_others", V.ref a0), (Str.ofString "_law_handed", V.ref ah), (Str.ofString "_law_wait", wV), (Str.ofString "_law_first", V.bool first), (Str.ofString "_law_number", V.int ((num : Nat) : Int))]) ?_ ?_)
    · walk_at "w"
      refine (cell_ok P _).call ⟨ns, 2, rfl, by decide, hn, ?_⟩
      rw [hc2]
      walk_at "w"
      refine ite_w (fun q1 => ?_) fun q1 => ?_
      · walk_at "w"
        refine ite_w (fun q2 => ?_) fun q2 => ?_
        · have hp := pos_t q2
          walk_at "w"
          refine ite_t rfl ?_
          walk_at "w"
          refine (cell_ok P _).call ⟨ns, 2, rfl, by decide, hn, ?_⟩
          rw [hc2]
          walk_at "w"
          obtain ⟨i1, hil, i2⟩ := pick6 (c2 / 320) hp hlen hn6
          refine SubW.list (lview_ref s1) i1 i2 (u := .int ((others[(c2 / 320 % (n : Int)).toNat] : Nat) : Int)) (by rw [List.getElem?_map, List.getElem?_eq_getElem hil]; rfl) ?_
          walk_at "w"
          exact ⟨_, ⟨_, rfl, rfl⟩, rfl, rfl, rfl, rfl, rfl, rfl, rfl, rfl, trivial⟩
        · refine ite_f rfl ?_
          walk_at "w"
          exact ⟨_, ⟨_, rfl, rfl⟩, rfl, rfl, rfl, rfl, rfl, rfl, rfl, rfl, trivial⟩
      · refine ite_f rfl ?_
        walk_at "w"
        exact ⟨_, ⟨_, rfl, rfl⟩, rfl, rfl, rfl, rfl, rfl, rfl, rfl, rfl, trivial⟩
    rintro l H9 ⟨num, rfl, rfl⟩
    walk_at "w"
    refine EvalW.dictS ?dh ?da ?db ?dc ?de
    case da => rfl
    case db => rfl
    case dc => simp
    case de => decide
    refine PairsW.cons ?_
    walk_at "w"
    refine PairsW.cons ?_
    walk_at "w"
    refine EvalW.list_fz ?_
    walk_at "w"
    refine ⟨by simp, ?_⟩
    walk_at "w"
    refine SubW.list rfl (z2 cell).1 (z2 cell).2 (u := .str (wordF cell)) ?_ ?_
    · have := z2c cell
      unfold wordF
      rcases this with e | e <;> rw [e] <;> rfl
    refine PairsW.cons ?_
    walk_at "w"
    refine PairsW.cons ?_
    walk_at "w"
    refine PairsW.cons ?_
    walk_at "w"
    refine PairsW.nil fun bd hbd _ => ?_
    with_unfolding_all change Cont C (k + 7) _ _ _ _ _ _ (H9.set bd (.dictS (Rho.of [(Str.ofString "number", V.int ((num : Nat) : Int)), (Str.ofString "word", V.str (wordF cell)), (Str.ofString "others", V.ref a0), (Str.ofString "first", V.bool first), (Str.ofString "free", V.bool (((n : Nat) : Int) == 0))]) 5))
    have le0 := Hp.le_set (o := .dictS (Rho.of [(Str.ofString "number", V.int ((num : Nat) : Int)), (Str.ofString "word", V.str (wordF cell)), (Str.ofString "others", V.ref a0), (Str.ofString "first", V.bool first), (Str.ofString "free", V.bool (((n : Nat) : Int) == 0))]) 5) hbd
    have d0 : (H9.set bd (.dictS (Rho.of [(Str.ofString "number", V.int ((num : Nat) : Int)), (Str.ofString "word", V.str (wordF cell)), (Str.ofString "others", V.ref a0), (Str.ofString "first", V.bool first), (Str.ofString "free", V.bool (((n : Nat) : Int) == 0))]) 5)) bd = some (.dictS (Rho.of [(Str.ofString "number", V.int ((num : Nat) : Int)), (Str.ofString "word", V.str (wordF cell)), (Str.ofString "others", V.ref a0), (Str.ofString "first", V.bool first), (Str.ofString "free", V.bool (((n : Nat) : Int) == 0))]) 5) := Hp.set_self ..
    generalize H9.set bd (.dictS (Rho.of [(Str.ofString "number", V.int ((num : Nat) : Int)), (Str.ofString "word", V.str (wordF cell)), (Str.ofString "others", V.ref a0), (Str.ofString "first", V.bool first), (Str.ofString "free", V.bool (((n : Nat) : Int) == 0))]) 5) = G2 at le0 d0
    walk_at "w"
    refine ⟨_, MethIs.update d0, Plainly.builtin _, ?_⟩
    walk_at "w"
    refine EvalW.dictS ?eh ?ea ?eb ?ec ?ee
    case ea => rfl
    case eb => rfl
    case ec => simp
    case ee => decide
    refine PairsW.cons ?_
    walk_at "w"
    refine PairsW.cons ?_
    refine EvalW.list ?_
    walk_at "w"
    refine ⟨by simp, fun a1 ha1 => ?_⟩
    have le1 := Hp.le_set (o := .list []) ha1
    have n1 : (G2.set a1 (.list [])) a1 = some (.list []) := Hp.set_self ..
    generalize G2.set a1 (.list []) = G3 at le1 n1
    refine PairsW.cons ?_
    refine EvalW.list ?_
    walk_at "w"
    refine ⟨by simp, fun a2 ha2 => ?_⟩
    have le2 := Hp.le_set (o := .list []) ha2
    have n2 : (G3.set a2 (.list [])) a2 = some (.list []) := Hp.set_self ..
    generalize G3.set a2 (.list []) = G4 at le2 n2
    refine PairsW.cons ?_
    refine EvalW.list ?_
    walk_at "w"
    refine ⟨by simp, fun a3 ha3 => ?_⟩
    have le3 := Hp.le_set (o := .list []) ha3
    have n3 : (G4.set a3 (.list [])) a3 = some (.list []) := Hp.set_self ..
    generalize G4.set a3 (.list []) = G5 at le3 n3
    refine PairsW.cons ?_
    walk_at "w"
    refine PairsW.cons ?_
    walk_at "w"
    refine PairsW.cons ?_
    refine EvalW.list ?_
    walk_at "w"
    refine ⟨by simp, fun a4 ha4 => ?_⟩
    have le4 := Hp.le_set (o := .list []) ha4
    have n4 : (G5.set a4 (.list [])) a4 = some (.list []) := Hp.set_self ..
    generalize G5.set a4 (.list []) = G6 at le4 n4
    refine PairsW.cons ?_
    refine EvalW.list ?_
    walk_at "w"
    refine ⟨by simp, fun a5 ha5 => ?_⟩
    have le5 := Hp.le_set (o := .list []) ha5
    have n5 : (G6.set a5 (.list [])) a5 = some (.list []) := Hp.set_self ..
    generalize G6.set a5 (.list []) = G7 at le5 n5
    refine PairsW.nil fun be hbe _ => ?_
    have le6 := Hp.le_set (o := .dictS (Rho.of [(Str.ofString "has", V.bool false), (Str.ofString "askers", V.ref a1), (Str.ofString "asked", V.ref a2), (Str.ofString "told", V.ref a3), (Str.ofString "owed", V.int 0), (Str.ofString "waker", V.none), (Str.ofString "out", V.ref a4), (Str.ofString "mine", V.ref a5)]) 8) hbe
    have ne6 : (G7.set be (.dictS (Rho.of [(Str.ofString "has", V.bool false), (Str.ofString "askers", V.ref a1), (Str.ofString "asked", V.ref a2), (Str.ofString "told", V.ref a3), (Str.ofString "owed", V.int 0), (Str.ofString "waker", V.none), (Str.ofString "out", V.ref a4), (Str.ofString "mine", V.ref a5)]) 8)) be = some (.dictS (Rho.of [(Str.ofString "has", V.bool false), (Str.ofString "askers", V.ref a1), (Str.ofString "asked", V.ref a2), (Str.ofString "told", V.ref a3), (Str.ofString "owed", V.int 0), (Str.ofString "waker", V.none), (Str.ofString "out", V.ref a4), (Str.ofString "mine", V.ref a5)]) 8) := Hp.set_self ..
    with_unfolding_all change ArgsW C (k + 7) _ _ _ _ _ (G7.set be (.dictS (Rho.of [(Str.ofString "has", V.bool false), (Str.ofString "askers", V.ref a1), (Str.ofString "asked", V.ref a2), (Str.ofString "told", V.ref a3), (Str.ofString "owed", V.int 0), (Str.ofString "waker", V.none), (Str.ofString "out", V.ref a4), (Str.ofString "mine", V.ref a5)]) 8))
    generalize G7.set be (.dictS (Rho.of [(Str.ofString "has", V.bool false), (Str.ofString "askers", V.ref a1), (Str.ofString "asked", V.ref a2), (Str.ofString "told", V.ref a3), (Str.ofString "owed", V.int 0), (Str.ofString "waker", V.none), (Str.ofString "out", V.ref a4), (Str.ofString "mine", V.ref a5)]) 8) = G8 at le6 ne6
    have up7 : Hp.le G2 G7 := Hp.le_trans le1 (Hp.le_trans le2 (Hp.le_trans le3 (Hp.le_trans le4 le5)))
    have d8 := le6 _ _ (up7 _ _ d0)
    have ndb : bd ≠ be := Hp.ne (up7 _ _ d0) hbe
    walk_at "w"
    refine CallW.update d8 ne6 ndb (by decide) ?_
    have b0 := le6 _ _ (up7 _ _ (le0 _ _ s1))
    have bh := le6 _ _ (up7 _ _ (le0 _ _ h1))
    have b1 := le6 _ _ (le5 _ _ (le4 _ _ (le3 _ _ (le2 _ _ n1))))
    have b2 := le6 _ _ (le5 _ _ (le4 _ _ (le3 _ _ n2)))
    have b3 := le6 _ _ (le5 _ _ (le4 _ _ n3))
    have b4 := le6 _ _ (le5 _ _ n4)
    have b5 := le6 _ _ n5
    have z0 := le0 _ _ s1
    have zh := le0 _ _ h1
    have nodup : [a0, a1, a2, a3, a4, a5].Nodup := by
      simp only [List.nodup_cons, List.mem_cons, not_or, List.not_mem_nil, not_false_eq_true, List.nodup_nil, and_true]
      refine ⟨⟨Hp.ne z0 ha1, Hp.ne (le1 _ _ z0) ha2, Hp.ne (le2 _ _ (le1 _ _ z0)) ha3, Hp.ne (le3 _ _ (le2 _ _ (le1 _ _ z0))) ha4, Hp.ne (le4 _ _ (le3 _ _ (le2 _ _ (le1 _ _ z0)))) ha5⟩, ⟨Hp.ne n1 ha2, Hp.ne (le2 _ _ n1) ha3, Hp.ne (le3 _ _ (le2 _ _ n1)) ha4, Hp.ne (le4 _ _ (le3 _ _ (le2 _ _ n1))) ha5⟩, ⟨Hp.ne n2 ha3, Hp.ne (le3 _ _ n2) ha4, Hp.ne (le4 _ _ (le3 _ _ n2)) ha5⟩, ⟨Hp.ne n3 ha4, Hp.ne (le4 _ _ n3) ha5⟩, Hp.ne n4 ha5⟩
    have hah' : ∀ x ∈ [a0, a1, a2, a3, a4, a5], ah ≠ x := by
      intro x hx
      simp only [List.mem_cons, List.not_mem_nil, or_false] at hx
      rcases hx with rfl | rfl | rfl | rfl | rfl | rfl
      · exact nah.symm
      · exact Hp.ne zh ha1
      · exact Hp.ne (le1 _ _ zh) ha2
      · exact Hp.ne (le2 _ _ (le1 _ _ zh)) ha3
      · exact Hp.ne (le3 _ _ (le2 _ _ (le1 _ _ zh))) ha4
      · exact Hp.ne (le4 _ _ (le3 _ _ (le2 _ _ (le1 _ _ zh)))) ha5
    have hfree : (((n : Nat) : Int) == 0) = (waitF cell (cellV ns 1) n).isNone := by
      rw [hw0]
      by_cases q : n = 0
      · subst q; rfl
      · rw [if_neg q]
        have : ¬ ((n : Nat) : Int) = 0 := by omega
        simp [this, q]
    obtain ⟨w, hwd⟩ : ∃ w, w = waitF cell (cellV ns 1) n := ⟨_, rfl⟩
    have hio := hio num first
    rw [← hwd] at hfree hwv hio hw0
    have ld : ∀ x : Addr, (∃ l, G8 x = some (.list l)) → x ≠ bd := fun x ⟨l, e⟩ => Hp.ne' e d8 (by simp)
    have Sp : SRep (G8.set bd (.dictS (Rho.of ([(Str.ofString "has", V.bool false), (Str.ofString "askers", V.ref a1), (Str.ofString "asked", V.ref a2), (Str.ofString "told", V.ref a3), (Str.ofString "owed", V.int 0), (Str.ofString "waker", V.none), (Str.ofString "out", V.ref a4), (Str.ofString "mine", V.ref a5)] ++ [(Str.ofString "number", V.int ((num : Nat) : Int)), (Str.ofString "word", V.str (wordF cell)), (Str.ofString "others", V.ref a0), (Str.ofString "first", V.bool first), (Str.ofString "free", V.bool (((n : Nat) : Int) == 0))])) (5 + 8))) ⟨bd, fun i => [a0, a1, a2, a3, a4, a5].getD i a5⟩ (wordF cell) ⟨initM num w first, [], [], []⟩ := by
      refine mk_srep _ rfl ?_ ?_ ?_ ?_ ?_ ?_ ?_ nodup
      · rw [Hp.set_self, hfree]; rfl
      · rw [Hp.set_ne (ld a0 ⟨_, b0⟩), b0]; simp only [cont]; rw [hio]
      · rw [Hp.set_ne (ld a1 ⟨_, b1⟩), b1]; rfl
      · rw [Hp.set_ne (ld a2 ⟨_, b2⟩), b2]; rfl
      · rw [Hp.set_ne (ld a3 ⟨_, b3⟩), b3]; rfl
      · rw [Hp.set_ne (ld a4 ⟨_, b4⟩), b4]; rfl
      · rw [Hp.set_ne (ld a5 ⟨_, b5⟩), b5]; rfl
    have hH : (G8.set bd (.dictS (Rho.of ([(Str.ofString "has", V.bool false), (Str.ofString "askers", V.ref a1), (Str.ofString "asked", V.ref a2), (Str.ofString "told", V.ref a3), (Str.ofString "owed", V.int 0), (Str.ofString "waker", V.none), (Str.ofString "out", V.ref a4), (Str.ofString "mine", V.ref a5)] ++ [(Str.ofString "number", V.int ((num : Nat) : Int)), (Str.ofString "word", V.str (wordF cell)), (Str.ofString "others", V.ref a0), (Str.ofString "first", V.bool first), (Str.ofString "free", V.bool (((n : Nat) : Int) == 0))])) (5 + 8))) ah = some (.list (others.map nv)) := by rw [Hp.set_ne (ld ah ⟨_, bh⟩)]; exact bh
    have hwv8 : WView (G8.set bd (.dictS (Rho.of ([(Str.ofString "has", V.bool false), (Str.ofString "askers", V.ref a1), (Str.ofString "asked", V.ref a2), (Str.ofString "told", V.ref a3), (Str.ofString "owed", V.int 0), (Str.ofString "waker", V.none), (Str.ofString "out", V.ref a4), (Str.ofString "mine", V.ref a5)] ++ [(Str.ofString "number", V.int ((num : Nat) : Int)), (Str.ofString "word", V.str (wordF cell)), (Str.ofString "others", V.ref a0), (Str.ofString "first", V.bool first), (Str.ofString "free", V.bool (((n : Nat) : Int) == 0))])) (5 + 8))) wV w := by
      rcases w with _ | ⟨b, l⟩
      · exact hwv
      · obtain ⟨hv, e, hl⟩ := hwv
        exact ⟨hv, e, lview_keep (lview_le (Hp.le_trans le0 (Hp.le_trans up7 le6)) hl) (fun b hb => Hp.set_ne hb) (fun l q => by rw [d8] at q; cases q)⟩
    generalize G8.set bd (.dictS (Rho.of ([(Str.ofString "has", V.bool false), (Str.ofString "askers", V.ref a1), (Str.ofString "asked", V.ref a2), (Str.ofString "told", V.ref a3), (Str.ofString "owed", V.int 0), (Str.ofString "waker", V.none), (Str.ofString "out", V.ref a4), (Str.ofString "mine", V.ref a5)] ++ [(Str.ofString "number", V.int ((num : Nat) : Int)), (Str.ofString "word", V.str (wordF cell)), (Str.ofString "others", V.ref a0), (Str.ofString "first", V.bool first), (Str.ofString "free", V.bool (((n : Nat) : Int) == 0))])) (5 + 8)) = G9 at Sp hH hwv8
    obtain ⟨B, hB⟩ : ∃ B : SA, B = ⟨bd, fun i => [a0, a1, a2, a3, a4, a5].getD i a5⟩ := ⟨_, rfl⟩
    have hBd : bd = B.d := by rw [hB]
    have hB0 : a0 = B.f 0 := by rw [hB]; rfl
    have hBh : ∀ i < 6, ah ≠ B.f i := by
      intro i hi
      rw [hB]
      rcases i with _ | _ | _ | _ | _ | _ | i
      · exact hah' a0 (by simp)
      · exact hah' a1 (by simp)
      · exact hah' a2 (by simp)
      · exact hah' a3 (by simp)
      · exact hah' a4 (by simp)
      · exact hah' a5 (by simp)
      · omega
    rw [← hB] at Sp
    have hnotf : w ≠ none → n ≠ 0 := fun q e => q (by rw [hw0, if_pos e])
    have hol : others.length ≤ 6 := by rw [hlen]; exact hn6
    have hwany : (initM num w first).freed = false → (wordF cell == Str.ofString "any") = !(initM num w first).isAll := by
      intro q
      rcases hq : w with _ | ⟨b, l⟩
      · rw [hq] at q; simp [initM] at q
      · have hn0 := hnotf (by rw [hq]; simp)
        rw [if_neg hn0, hq] at hw0
        injection hw0 with hw0
        injection hw0 with e1 e2
        unfold wordF initM HandM.isAll
        rw [e1]
        cases (cell % 2 == 0) <;> with_unfolding_all rfl
    have I0 : Inv5 ⟨initM num w first, [], [], []⟩ := Inv5.start num w first (by rw [hio]; exact hnod)
    subst hBd
    rw [hB0]
    clear hah' nodup ld b0 bh b1 b2 b3 b4 b5 z0 zh le0 le1 le2 le3 le4 le5 le6 up7 d8 ne6 d0 n1 n2 n3 n4 n5 ndb hfree hwv s1 h1
    walk_at "w"
    refine CallW.make P (by kernel_rfl) (by kernel_rfl) (by kernel_rfl) (init2_ok P _) fun x d hx hd hxd => ?_
    have leM : Hp.le G9 ((G9.set d (.ns (Rho.of []) 0)).set x (.inst 62 d)) := fun b o e => by rw [Hp.set_ne (Hp.ne e hx), Hp.set_ne (Hp.ne e hd)]; exact e
    refine ⟨x, d, num, w, first, wV, rfl, ?_, Hp.set_self .., (Hp.set_ne hxd.symm).trans (Hp.set_self ..), by rw [hio]; exact Nat.le_trans hol (by decide), ?_⟩
    · rcases w with _ | ⟨b, l⟩
      · exact hwv8
      · obtain ⟨hv, e, hl⟩ := hwv8
        exact ⟨hv, e, lview_le leM hl⟩
    intro G10 A hAi hAd Rp hAa hAh fr
    refine ⟨rfl, ?_⟩
    subst hAi
    have sep : ∀ i < 6, B.f i ≠ A.a := fun i hi => Hp.ne (leM _ _ (Sp.l i hi)) hAa
    have sepH : ah ≠ A.a := Hp.ne (leM _ _ hH) hAa
    have le10 : Hp.le G9 G10 := fun b o e => fr b o (leM _ _ e) (Hp.ne e hd)
    have Sp := Sp.le le10
    have hH := le10 _ _ hH
    clear fr leM le10 hAa hAh hwv8
    have Sd := Sp.d
    walk_at "w"
    refine (kept_ok P _).call ⟨A, B, wordF cell, _, rfl, Rp, Sp, ?_⟩
    walk_at "w"
    refine ite_f rfl ?_
    walk_at "w"
    refine CmpW.neN (l := others) (l' := others) (lview_ref hH) (lview_ref (by have := Sp.l 0 (by decide); simp only [cont] at this; rw [hio] at this; exact this)) ?_
    walk_at "w"
    refine ite_f (by simp) ?_
    walk_at "w"
    refine ite_f rfl ?_
    walk_at "w"
    refine ⟨_, MethIs.append hH, Plainly.builtin _, ?_⟩
    walk_at "w"
    refine CallW.append hH (by rw [List.length_map]; exact Nat.le_trans hol (by decide)) ?_
    have Rp1 := Rp.list (l' := others.map nv ++ [V.int ((num : Nat) : Int)]) hH sepH
    have Sp1 := Sp.list (l' := others.map nv ++ [V.int ((num : Nat) : Int)]) hH hBh
    have hH1 : (G10.set ah (.list (others.map nv ++ [V.int ((num : Nat) : Int)]))) ah = some (.list (others.map nv ++ [V.int ((num : Nat) : Int)])) := Hp.set_self ..
    generalize G10.set ah (.list (others.map nv ++ [V.int ((num : Nat) : Int)])) = G11 at Rp1 Sp1 hH1
    walk_at "w"
    refine ⟨_, MethIs.reverse hH1, Plainly.builtin _, ?_⟩
    walk_at "w"
    refine CallW.reverse hH1 (by rw [List.length_append, List.length_map]; exact Nat.le_trans (Nat.add_le_add_right hol _) (by show 6 + 1 ≤ 50000; decide)) ?_
    have Rp2 := Rp1.list (l' := (others.map nv ++ [V.int ((num : Nat) : Int)]).reverse) hH1 sepH
    have Sp2 := Sp1.list (l' := (others.map nv ++ [V.int ((num : Nat) : Int)]).reverse) hH1 hBh
    generalize G11.set ah (.list (others.map nv ++ [V.int ((num : Nat) : Int)]).reverse) = G12 at Rp2 Sp2
    clear Rp Sp Rp1 Sp1 hH hH1 Sd G10 G11
    refine Cont.next (ExecsW.seq (fun l H' => ∃ st : S5, HandRep 62 H' A st.m ∧ SRep H' B (wordF cell) st ∧ Inv5 st ∧ Sz5 0 st ∧ st.m.num = num ∧ (st.m.freed = false → (wordF cell == Str.ofString "any") = !st.m.isAll) ∧ l = [(Str.ofString "_law_script", V.lst (ns.map .int)), (Str.ofString "_law_number", V.int ((num : Nat) : Int)), (Str.ofString "_law_s", V.ref B.d), (Str.ofString "_law_hand", V.ref A.i)]) ?_ ?_)
    · have Sd := Sp2.d
      walk_at "w"
      refine ite_w (fun hf => ?_) fun hf => ?_
      · subst hf
        walk_at "w"
        refine Sp2.putHas (decide (0 < ((n : Nat) : Int))) fun G13 Sp3 e3 => ?_
        have Rp3 := Rp2.sframe Sp2 ((SFrame.refl G12 B).butd e3) sep
        clear Sd
        have Sd := Sp3.d
        walk_at "w"
        refine ⟨_, Rp3.meth P hc (f := 40) (by with_unfolding_all rfl) (by kernel_rfl) (by kernel_rfl), Plainly.ofS P.X rfl, ?_⟩
        walk_at "w"
        refine (begin_ok P _).call ⟨A, _, rfl, Rp3, by rw [hio]; exact Nat.le_trans hol (by decide), ?_⟩
        intro G14 y Rp4 y4 ny f4
        have Sp4 := Sp3.hframe Rp3 f4 sep
        have nyA : y ≠ A.a := fun q => by rw [q, Rp3.a] at ny; cases ny
        have nyB : ∀ i < 6, y ≠ B.f i := fun i hi q => by rw [q, Sp3.l i hi] at ny; cases ny
        have hb : (beginM (initM num w true)).1 = (sentS ⟨{ initM num w true with has := decide (0 < ((n : Nat) : Int)) }, [], [], []⟩ .ask others).1.m ∧ (beginM (initM num w true)).2 = (sentS ⟨{ initM num w true with has := decide (0 < ((n : Nat) : Int)) }, [], [], []⟩ .ask others).2 := by
          by_cases q : n = 0
          · have ho : others = [] := List.length_eq_zero_iff.mp (by rw [hlen]; exact q)
            subst ho
            rw [if_pos q] at hw0
            subst hw0
            subst q
            exact ⟨rfl, rfl⟩
          · rw [if_neg q] at hw0
            have hd := pos_d q
            rw [hd]
            subst hw0
            exact ⟨rfl, rfl⟩
        have Ib : Inv5 (sentS ⟨{ initM num w true with has := decide (0 < ((n : Nat) : Int)) }, [], [], []⟩ .ask others).1 := by
          by_cases q : n = 0
          · have ho : others = [] := List.length_eq_zero_iff.mp (by rw [hlen]; exact q)
            have hd := pos_e q
            rw [hd]
            subst ho
            exact I0
          · have hd := pos_d q
            rw [hd, ← hio]
            exact Inv5.begin num w (by rw [hio]; exact hnod) (by rw [hw0, if_neg q]; simp)
        clear Sd
        have Sd := Sp4.d
        walk_at "w"
        refine (sent5_ok P _).call ⟨B, wordF cell, _, .ask, others, B.f 0, rfl, Sp4, by have := Sp4.l 0 (by decide); simp only [cont] at this; rw [show HandM.others { initM num w true with has := decide (0 < ((n : Nat) : Int)) } = (initM num w true).others from rfl, hio] at this; exact this, Sp4.ne 0 4 (by decide) (by decide) (by decide), Sp4.ne 0 5 (by decide) (by decide) (by decide), Nat.le_trans hol (by decide), by simp, by simp, ?_⟩
        intro G15 Sp5 f5
        have Rp5 := Rp4.sframe Sp4 f5 sep
        have y5 := f5.list Sp4 y4 nyB
        rw [hb.2] at y5
        rw [hb.1] at Rp5
        have fl0 : (sentS ⟨{ initM num w true with has := decide (0 < ((n : Nat) : Int)) }, [], [], []⟩ .ask others).2.length ≤ 900 := by show (others.map _).length ≤ 900; rw [List.length_map]; exact Nat.le_trans hol (by decide)
        clear Sd
        have Sd := Sp5.d
        walk_at "w"
        refine (alike_ok P _).call ⟨_, _, _, rfl, lview_ref y5, rfl, fl0, ?_⟩
        walk_at "w"
        refine ite_f rfl ?_
        walk_at "w"
        refine (kept_ok P _).call ⟨A, B, wordF cell, _, rfl, Rp5, Sp5, ?_⟩
        walk_at "w"
        refine ite_f rfl ?_
        walk_at "w"
        refine ite_f rfl ?_
        walk_at "w"
        refine ⟨_, MethIs.clear y5, Plainly.builtin _, ?_⟩
        walk_at "w"
        refine CallW.clear y5 (Nat.le_trans (by rw [List.length_map]; exact fl0) (by decide)) ?_
        walk_at "w"
        refine ⟨_, ⟨_, Rp5.list y5 nyA, Sp5.list y5 nyB, Ib, ?_, rfl, ?_, rfl⟩, rfl, rfl, rfl, rfl, trivial⟩
        · refine ⟨Nat.zero_le _, Nat.zero_le _, Nat.zero_le _, by show (initM num w true).others.length ≤ 6; rw [hio]; exact hol, ?_, ?_⟩
          · show ([] ++ others).length + (if decide (0 < ((n : Nat) : Int)) = true then 0 else (initM num w true).others.length) + (if (initM num w true).freed = true then 0 else 0) ≤ 10
            have hlo : (if decide (0 < ((n : Nat) : Int)) = true then 0 else others.length) = 0 := by
              split
              · rfl
              · rename_i q
                have : n = 0 := pos_f (by simpa using q)
                rw [hlen]; exact this
            have hz : (if (initM num w true).freed = true then 0 else 0) = 0 := by split <;> rfl
            rw [List.nil_append, hio, hlo, hz]
            exact Nat.le_trans hol (by decide)
          · show ([] ++ _).length ≤ 10
            rw [List.nil_append, List.length_map]
            exact Nat.le_trans (List.length_filter_le ..) (Nat.le_trans hol (by decide))
        · exact hwany
      · subst hf
        walk_at "w"
        refine ⟨_, ⟨_, Rp2, Sp2, I0, ?_, rfl, hwany, rfl⟩, rfl, rfl, rfl, rfl, trivial⟩
        refine ⟨Nat.zero_le _, Nat.zero_le _, Nat.zero_le _, by show (initM num w false).others.length ≤ 6; rw [hio]; exact hol, ?_, Nat.zero_le _⟩
        show 0 + (if false = true then 0 else (initM num w false).others.length) + (if (initM num w false).freed = true then 0 else 0) ≤ 10
        have hz : (if (initM num w false).freed = true then 0 else 0) = 0 := by split <;> rfl
        rw [hio, hz, if_neg (by decide), Nat.zero_add]
        exact Nat.le_trans hol (by decide)
    clear Rp2 Sp2 I0 hwany
    rintro l G20 ⟨st, Rp, Sp, I, Sz, hnum, hwany, rfl⟩
    walk_at "w"
    refine ExecW.for_in false P.hd (fun e => by cases e) ?_
    refine IterE.list ?_
    refine EvalW.sliceL ?_
    walk_at "w"
    refine PartW.some ?_
    walk_at "w"
    refine ⟨_, rfl, ?_⟩
    refine PartW.some ?_
    walk_at "w"
    refine ⟨_, rfl, ?_⟩
    refine ⟨_, rfl, by rw [List.length_map]; exact Nat.le_trans hn (by decide), fun aS haS => ?_⟩
    rw [pickV_map]
    obtain ⟨items, hit⟩ : ∃ l, l = pickV ns (some 3) (some 43) := ⟨_, rfl⟩
    have hil : items.length ≤ 40 := by
      rw [hit]
      unfold pickV
      rw [List.length_take, List.length_drop]
      exact clip40 ns.length
    rw [← hit]
    have nSA : aS ≠ A.a := (Hp.ne Rp.a haS).symm
    have nSB : ∀ i < 6, aS ≠ B.f i := fun i hi => (Hp.ne (Sp.l i hi) haS).symm
    have hS : (G20.set aS (.list (items.map .int))) aS = some (.list (items.map .int)) := Hp.set_self ..
    have Rp' := Rp.fresh (o := .list (items.map .int)) haS
    have Sp' := Sp.le (Hp.le_set (o := .list (items.map .int)) haS)
    generalize G20.set aS (.list (items.map .int)) = G21 at hS Rp' Sp'
    refine ⟨_, lview_ref hS, fun r l H' => ∃ t st, r = (items.map V.int).drop t ∧ t ≤ items.length ∧ HandRep 62 H' A st.m ∧ SRep H' B (wordF cell) st ∧ Inv5 st ∧ Sz5 t st ∧ st.m.num = num ∧ (st.m.freed = false → (wordF cell == Str.ofString "any") = !st.m.isAll) ∧ H' aS = some (.list (items.map .int)) ∧ l = [(Str.ofString "_law_number", V.int ((num : Nat) : Int)), (Str.ofString "_law_s", V.ref B.d), (Str.ofString "_law_hand", V.ref A.i)], ⟨_, ⟨0, st, rfl, Nat.zero_le _, Rp', Sp', I, Sz, hnum, hwany, hS, rfl⟩, rfl, rfl, rfl, trivial⟩, ?_, ?_, ?_⟩
    · rintro r l H' ⟨t, st, _, _, _, _, _, _, _, _, hS, _⟩; exact lview_ref hS
    · clear Rp Sp I Sz hnum hwany Rp' Sp' hS
      clear st
      rintro v r l H' ⟨t, st, er, ht, Rp, Sp, I, Sz, hnum, hwany, hS, rfl⟩
      obtain ⟨hv, hr, hi⟩ := drop_cons er
      rw [List.length_map] at hi
      rw [List.getElem?_map, List.getElem?_eq_getElem hi] at hv
      cases hv
      have ht40 : t ≤ 40 := Nat.le_trans (Nat.le_of_lt hi) hil
      obtain ⟨ok, zo, zm⟩ := Sz.ok ht40
      refine AssignW.name (Or.inl rfl) ?_
      walk_at "w"
      refine (letter5_ok P _).call ⟨B, wordF cell, st, _, rfl, Sp, ok, zo, I, ?_, ?_⟩
      · intro w s st' H1 Pre em ea eo el Sp1 f1
        have Rp1 : HandRep 62 H1 A st'.m := by rw [em]; exact Rp.sframe Sp f1 sep
        have hS1 := f1.list Sp hS nSB
        have sz1 : Sz5 t st' := Sz.like em ea eo el
        obtain ⟨ok1, _, zm1⟩ := sz1.ok ht40
        have hok := sz1.hok ht40
        have hwany1 : st'.m.freed = false → (wordF cell == Str.ofString "any") = !st'.m.isAll := by rw [em]; exact hwany
        have num1 : st'.m.num = num := by rw [em]; exact hnum
        clear Rp Sp I Sz hS ok hwany hnum zo zm em ea eo el
        have Sd := Sp1.d
        walk_at "w"
        refine SubW.tup (by decide) (by decide) rfl ?_
        walk_at "w"
        refine ite_t (by cases w <;> with_unfolding_all rfl) ?_
        walk_at "w"
        refine SubW.tup (by decide) (by decide) rfl ?_
        walk_at "w"
        refine SubW.tup (by decide) (by decide) rfl ?_
        walk_at "w"
        refine (come5_ok P _).call ⟨B, wordF cell, st', w, s, rfl, Sp1, ok1, zm1, Pre.b, hwany1, ?_⟩
        intro H2 Sp2 f2
        have Rp2 := Rp1.sframe Sp1 f2 sep
        have hS2 := f2.list Sp1 hS1 nSB
        have em2 := comeS_m st' w s Pre.tok
        have I2 := Pre.come
        have Sz2 := sz1.come Pre ht40
        have cz := come_fl sz1 ht40 w s
        clear Sd
        have Sd := Sp2.d
        walk_at "w"
        refine ⟨_, Rp2.meth P hc (f := 47) (by with_unfolding_all rfl) (by kernel_rfl) (by kernel_rfl), Plainly.ofS P.X rfl, ?_⟩
        walk_at "w"
        refine SubW.tup (by decide) (by decide) rfl ?_
        walk_at "w"
        refine SubW.tup (by decide) (by decide) rfl ?_
        walk_at "w"
        refine ⟨?_, by simp⟩
        walk_at "w"
        refine (come_ok P _).call ⟨A, st'.m, w, s, num, rfl, Rp2, hok, ?_⟩
        intro H3 y Rp3 y3 ny f3
        have Sp3 := Sp2.hframe Rp2 f3 sep
        have nyA : y ≠ A.a := fun q => by rw [q, Rp2.a] at ny; cases ny
        have nyB : ∀ i < 6, y ≠ B.f i := fun i hi q => by rw [q, Sp2.l i hi] at ny; cases ny
        have hS3 := Rp2.frame hS2 nSA f3
        have nyS : aS ≠ y := fun q => by rw [← q, hS2] at ny; cases ny
        rw [← em2.1] at Rp3
        rw [← em2.2] at y3 cz
        have fl0 := cz
        clear Sd
        have Sd := Sp3.d
        walk_at "w"
        refine (alike_ok P _).call ⟨_, _, _, rfl, lview_ref y3, rfl, fl0, ?_⟩
        walk_at "w"
        refine ite_f rfl ?_
        walk_at "w"
        refine (kept_ok P _).call ⟨A, B, wordF cell, _, rfl, Rp3, Sp3, ?_⟩
        walk_at "w"
        refine ite_f rfl ?_
        walk_at "w"
        refine ite_f rfl ?_
        walk_at "w"
        refine ⟨_, MethIs.append y3, Plainly.builtin _, ?_⟩
        walk_at "w"
        refine ⟨?_, by simp⟩
        walk_at "w"
        refine CallW.append y3 (by rw [List.length_map]; exact Nat.le_trans fl0 (by decide)) ?_
        walk_at "w"
        refine ⟨_, ⟨t + 1, _, hr, hi, Rp3.list y3 nyA, Sp3.list y3 nyB, I2, Sz2, by rw [em2.1, (come_same st'.m w s).num]; exact num1, ?_, (Hp.set_ne nyS).trans hS3, rfl⟩, rfl, rfl, rfl, trivial⟩
        rw [em2.1]
        intro q
        have e1 : (comeM st'.m w s).1.isAll = st'.m.isAll := by unfold HandM.isAll; rw [(come_same st'.m w s).wait]
        rw [e1]; exact hwany1 (come_freed _ _ _ q)
      · walk_at "w"
        refine SubW.tup (by decide) (by decide) rfl ?_
        walk_at "w"
        refine ite_f (by with_unfolding_all rfl) ?_
        walk_at "w"
        refine ⟨_, ⟨t + 1, st, hr, hi, Rp, Sp, I, ?_, hnum, hwany, hS, rfl⟩, rfl, rfl, rfl, trivial⟩
        exact Sz.next
    · rintro l H' _
      walk_at "w"
      exact RetQ.here (hQ _)
end Mine
open PySem PySem.W PyProof.Rows
set_option Elab.async false
set_option maxRecDepth 100000
set_option maxHeartbeats 8000000
theorem PySem.Challenge.cw_uf060008_05_holds : PySem.Challenge.rw_uf060008_05.Holds := by
  refine holds_law Mine.said05 fun said => ?_
  refine holds_open (q := Mine.q05) (loose := Mine.loose05) (Xt := fun s => recOk (RowW.records PySem.Challenge.rw_uf060008_05.row.toRowW) s) (XP := fun _ _ => True) (Yf := Hook.obs Mine.hook05) (Ya := Hook.val Mine.hook05) (YP := Hook.says Mine.hook05) (N := 1400) Mine.left05 (Hook.of _) (Hook.keeps _) (fun _ _ => trivial) (fun _ _ _ _ _ => trivial) (by rfl) (by rfl) (by rfl) (fun s e => recFacts_of e) (by rfl) said Mine.ok05 ⟨rfl, rfl, rfl, rfl, rfl, by decide +kernel⟩ ?hw ?hc
  case hw => w_witness2
  intro w s₀ s₁ mg mb G Y fa o pm cd doc dV kV ho hd hcd hD hmg hg args vals as hpre hlay hrd hwl hlo
  have KX : (Mine.K05 w.params).In s₁.heap := Y
  refine Ground.open G ?_
  intro T B D TE TW
  wrow_args hpre hlay hrd hwl hlo
  rename_i ns _ _ _ _ _ _ _ a vals _ hL _ _ _ hI _ hlen _
  refine enter_call ?_
  have hfa := mg_of KX T.g (n := Str.ofString "law") (v := .ref 114) (by kernel_rfl)
  have efa : Value.ref fa = .ref 114 := Option.some.inj (hmg.symm.trans hfa)
  rw [efa]
  obtain ⟨_, ⟨oc, _, _, hoc, _⟩, _⟩ := T.nodigits
  have P : Mine.PCx ⟨PySem.Challenge.rw_uf060008_05.row.prog, w, s₁.heap, s₁.os, true, ⟨oc, hoc⟩⟩ (Mine.K05 w.params) := ⟨KX, T.nolimit, ⟨mg, mb, T.g, T.b, T.builtins⟩, rfl⟩
  exact Mine.law_glue ⟨oc, hoc⟩ hg hL hI (Mine.law_ok (C := ⟨PySem.Challenge.rw_uf060008_05.row.prog, w, s₁.heap, s₁.os, true, ⟨oc, hoc⟩⟩) P 0) (by decide) ⟨ns, rfl, by omega, fun _ => rfl⟩ (fun _ => rfl) (by with_unfolding_all rfl)

