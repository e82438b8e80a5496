import PyProof.Rows.All
import Wide.All
import OpenK.AllK
import Wide.FinOn
import PySem.Challenge.RW_uf050026_01
set_option maxRecDepth 100000
set_option linter.unusedVariables false
set_option linter.unusedSimpArgs false
set_option Elab.async false
namespace Mine
open PySem PySem.W PySem.Spec PySem.Calls PyProof.Rows

/-! ## Data over a ledger of frozen objects -/
abbrev Led := List (Addr × Obj)

mutual
inductive Rp (Z : Led) : Value → PyData → Prop
  | none : Rp Z .none .none
  | bool (b : Bool) : Rp Z (.bool b) (.bool b)
  | int (i : Int) (t : Tok) : Rp Z (.int i t) (.int i)
  | str (x : Str) (t : Tok) : Rp Z (.str x t) (.str x)
  | tuple {a : Addr} {o : Obj} {vs : List Value} {n : Nat} {ds : List PyData} : (a, o) ∈ Z → o.cls = .type "tuple" → o.data = .seq vs.toArray n → Rps Z vs ds → Rp Z (.ref a) (.tuple ds)
  | list {a : Addr} {o : Obj} {vs : List Value} {n : Nat} {ds : List PyData} : (a, o) ∈ Z → o.cls = .type "list" → o.data = .seq vs.toArray n → Rps Z vs ds → Rp Z (.ref a) (.list ds)
inductive Rps (Z : Led) : List Value → List PyData → Prop
  | nil : Rps Z [] []
  | cons {v : Value} {vs : List Value} {d : PyData} {ds : List PyData} : Rp Z v d → Rps Z vs ds → Rps Z (v :: vs) (d :: ds)
end

mutual
theorem Rp.mono {Z Z' : Led} (hs : ∀ p ∈ Z, p ∈ Z') : ∀ {v : Value} {d : PyData}, Rp Z v d → Rp Z' v d
  | _, _, .none => .none
  | _, _, .bool b => .bool b
  | _, _, .int i t => .int i t
  | _, _, .str x t => .str x t
  | _, _, .tuple h a b r => .tuple (hs _ h) a b (Rps.mono hs r)
  | _, _, .list h a b r => .list (hs _ h) a b (Rps.mono hs r)
theorem Rps.mono {Z Z' : Led} (hs : ∀ p ∈ Z, p ∈ Z') : ∀ {vs : List Value} {ds : List PyData}, Rps Z vs ds → Rps Z' vs ds
  | _, _, .nil => .nil
  | _, _, .cons h r => .cons (Rp.mono hs h) (Rps.mono hs r)
end

section
variable {Z : Led} {v : Value} {d : PyData} {vs ws : List Value} {ds es : List PyData}
theorem Rps.length (h : Rps Z vs ds) : vs.length = ds.length := by
  induction vs generalizing ds with
  | nil => cases h; rfl
  | cons v vs ih => cases h with | cons _ r => simp [ih r]
theorem Rps.append (h : Rps Z vs ds) (k : Rps Z ws es) : Rps Z (vs ++ ws) (ds ++ es) := by
  induction vs generalizing ds with
  | nil => cases h; exact k
  | cons v vs ih => cases h with | cons h r => exact .cons h (ih r)
theorem Rps.one (h : Rp Z v d) : Rps Z [v] [d] := .cons h .nil
theorem Rps.get (h : Rps Z vs ds) {k : Nat} (hk : ds[k]? = some d) : ∃ v, vs[k]? = some v ∧ Rp Z v d := by
  induction vs generalizing ds k with
  | nil => cases h; simp at hk
  | cons v vs ih =>
    cases h with
    | cons h r =>
      cases k with
      | zero => simp at hk; subst hk; exact ⟨v, rfl, h⟩
      | succ k => simp at hk; obtain ⟨u, h1, h2⟩ := ih r hk; exact ⟨u, by simpa using h1, h2⟩
theorem Rps.getV (h : Rps Z vs ds) {k : Nat} (hk : vs[k]? = some v) : ∃ d, ds[k]? = some d ∧ Rp Z v d := by
  induction vs generalizing ds k with
  | nil => simp at hk
  | cons u vs ih =>
    cases h with
    | cons h r =>
      cases k with
      | zero => simp at hk; subst hk; exact ⟨_, rfl, h⟩
      | succ k => simp at hk; obtain ⟨u, h1, h2⟩ := ih r hk; exact ⟨u, by simpa using h1, h2⟩
end

/-- the heap holds the ledger -/
def HasL (h : Heap) (Z : Led) : Prop := ∀ p ∈ Z, h.get? p.1 = some p.2

mutual
theorem Rp.reads {Z : Led} {h : Heap} (H : HasL h Z) : ∀ {v : Value} {d : PyData}, Rp Z v d → ∃ as, Reads h v d as
  | _, _, .none => ⟨_, Reads.none⟩
  | _, _, .bool b => ⟨_, Reads.bool b⟩
  | _, _, .int i t => ⟨_, Reads.int i t⟩
  | _, _, .str x t => ⟨_, Reads.str x t⟩
  | _, _, .tuple hm hc hd r => by
    obtain ⟨as, q⟩ := Rps.reads H r
    exact ⟨as, .tuple (H _ hm) hc hd (by simpa using q)⟩
  | _, _, .list hm hc hd r => by
    obtain ⟨as, q⟩ := Rps.reads H r
    exact ⟨_, .list (H _ hm) hc hd (by simpa using q)⟩
theorem Rps.reads {Z : Led} {h : Heap} (H : HasL h Z) : ∀ {vs : List Value} {ds : List PyData}, Rps Z vs ds → ∃ as, ReadsAll h vs ds as
  | _, _, .nil => ⟨_, .nil⟩
  | _, _, .cons hd r => by
    obtain ⟨as, q⟩ := Rp.reads H hd
    obtain ⟨bs, p⟩ := Rps.reads H r
    exact ⟨_, .cons q p⟩
end

section
variable {Z : Led} {h : Heap} {v : Value} {ds : List PyData}
theorem Rp.tupleAt (H : HasL h Z) (r : Rp Z v (.tuple ds)) : ∃ a vs, v = .ref a ∧ IsTup h a vs.toArray ∧ Rps Z vs ds := by
  cases r with
  | tuple hm hc hd r => exact ⟨_, _, rfl, ⟨_, H _ hm, hc, _, hd⟩, r⟩
theorem Rp.listAt (H : HasL h Z) (r : Rp Z v (.list ds)) : ∃ a vs, v = .ref a ∧ h.IsList a vs.toArray ∧ Rps Z vs ds := by
  cases r with
  | list hm hc hd r => exact ⟨_, _, rfl, ⟨_, H _ hm, hc, _, hd⟩, r⟩
theorem Rp.intAt {i : Int} (r : Rp Z v (.int i)) : ∃ t, v = .int i t := by cases r; exact ⟨_, rfl⟩
theorem Rp.strAt {x : Str} (r : Rp Z v (.str x)) : ∃ t, v = .str x t := by cases r; exact ⟨_, rfl⟩
theorem Rp.boolAt {b : Bool} (r : Rp Z v (.bool b)) : v = .bool b := by cases r; rfl
theorem Rp.noneAt (r : Rp Z v .none) : v = .none := by cases r; rfl
end

/-! ## Growth: the heap only gains objects, the ledger only gains new ones -/
structure Ext (Z : Led) (s : Shared) (Z' : Led) (s' : Shared) : Prop where
  same : ∃ h' tk, s' = { s with heap := h', toks := tk }
  keep : ∀ b o, s.heap.get? b = some o → s'.heap.get? b = some o
  sub : ∀ p ∈ Z, p ∈ Z'
  new : ∀ p ∈ Z', p ∈ Z ∨ (s.heap.get? p.1 = none ∧ s'.heap.get? p.1 = some p.2)

theorem none_of_keep {h h' : Heap} (k : ∀ b o, h.get? b = some o → h'.get? b = some o) {b : Addr} (e : h'.get? b = none) : h.get? b = none := by
  cases q : h.get? b with
  | none => rfl
  | some o => rw [k b o q] at e; cases e

theorem Ext.refl {Z : Led} {s : Shared} : Ext Z s Z s := ⟨⟨s.heap, s.toks, rfl⟩, fun _ _ e => e, fun _ h => h, fun _ h => .inl h⟩
theorem Ext.trans {Z Z' Z'' : Led} {s s' s'' : Shared} (x : Ext Z s Z' s') (y : Ext Z' s' Z'' s'') : Ext Z s Z'' s'' := by
  obtain ⟨h1, t1, e1⟩ := x.same
  obtain ⟨h2, t2, e2⟩ := y.same
  refine ⟨⟨h2, t2, by rw [e2, e1]⟩, fun b o e => y.keep b o (x.keep b o e), fun p h => y.sub p (x.sub p h), fun p h => ?_⟩
  rcases y.new p h with q | ⟨q1, q2⟩
  · rcases x.new p q with r | ⟨r1, r2⟩
    · exact .inl r
    · exact .inr ⟨r1, y.keep _ _ r2⟩
  · exact .inr ⟨none_of_keep x.keep q1, q2⟩
theorem Ext.toks {Z : Led} {s : Shared} (n : Nat) : Ext Z s Z { s with toks := n } := ⟨⟨s.heap, n, rfl⟩, fun _ _ e => e, fun _ h => h, fun _ h => .inl h⟩
theorem Ext.has {Z Z' : Led} {s s' : Shared} (x : Ext Z s Z' s') (H : HasL s.heap Z) : HasL s'.heap Z' := fun p hp => by
  rcases x.new p hp with q | q
  · exact x.keep _ _ (H p q)
  · exact q.2
/-- the heap gained, the ledger stood -/
theorem Ext.grow {Z : Led} {s : Shared} {h' : Heap} {tk : Nat} (k : ∀ b o, s.heap.get? b = some o → h'.get? b = some o) : Ext Z s Z { s with heap := h', toks := tk } :=
  ⟨⟨h', tk, rfl⟩, k, fun _ h => h, fun _ h => .inl h⟩
/-- one new object entered -/
theorem Ext.more {Z : Led} {s : Shared} {h' : Heap} {tk : Nat} {a : Addr} {o : Obj} (k : ∀ b o, s.heap.get? b = some o → h'.get? b = some o) (hn : s.heap.get? a = none) (ho : h'.get? a = some o) :
    Ext Z s ((a, o) :: Z) { s with heap := h', toks := tk } :=
  ⟨⟨h', tk, rfl⟩, k, fun _ h => .tail _ h, fun p h => by
    rcases List.mem_cons.mp h with rfl | h
    · exact .inr ⟨hn, ho⟩
    · exact .inl h⟩

/-- on the way: the ledger only gains; beside heap and tokens nothing turns -/
structure Fwd (Z : Led) (s : Shared) (Z' : Led) (s' : Shared) : Prop where
  same : ∃ h' tk, s' = { s with heap := h', toks := tk }
  sub : ∀ p ∈ Z, p ∈ Z'
theorem Fwd.refl {Z : Led} {s : Shared} : Fwd Z s Z s := ⟨⟨s.heap, s.toks, rfl⟩, fun _ h => h⟩
theorem Fwd.trans {Z Z' Z'' : Led} {s s' s'' : Shared} (x : Fwd Z s Z' s') (y : Fwd Z' s' Z'' s'') : Fwd Z s Z'' s'' := by
  obtain ⟨h1, t1, e1⟩ := x.same
  obtain ⟨h2, t2, e2⟩ := y.same
  exact ⟨⟨h2, t2, by rw [e2, e1]⟩, fun p h => y.sub p (x.sub p h)⟩
theorem Ext.fwd {Z Z' : Led} {s s' : Shared} (x : Ext Z s Z' s') : Fwd Z s Z' s' := ⟨x.same, x.sub⟩
theorem Fwd.at {Z : Led} {s : Shared} {h' : Heap} {tk : Nat} : Fwd Z s Z { s with heap := h', toks := tk } := ⟨⟨h', tk, rfl⟩, fun _ h => h⟩
theorem Fwd.led {Z Z' : Led} {s : Shared} (h : ∀ p ∈ Z, p ∈ Z') : Fwd Z s Z' s := ⟨⟨s.heap, s.toks, rfl⟩, h⟩

/-! ## The program's fixed facts, and the ground on which a call stands -/
structure Cx where
  prog : Program
  w : World
  K : Frag
  p : Program
  loose : List Str
  mg : Str → Option Value
  mb : Str → Option Value

/-- what a call needs of the caller -/
structure Gnd (C : Cx) (A A₀ : Around) (base : Heap) (outer : List Env) (h₀ : Heap) (L : Addr) (m : Str → Option Value) (env : Env) (pin Z : Led) (s : Shared) : Prop where
  B : Below A₀ base outer h₀
  F : Fr h₀ L s.heap m
  N : News h₀ L s.heap (pin ++ Z)
  X : C.K.In h₀
  T : TopRead C.p C.loose C.mg C.mb h₀
  hA : A.frames = some (env :: outer)
  hf : env.frame = some L
  hk : env.scope.kind = .function

def Ground (C : Cx) (A : Around) (Z : Led) (s : Shared) : Prop := ∃ A₀ base outer h₀ L m env, Gnd C A A₀ base outer h₀ L m env [] Z s

/-- a state predicate that stands growth and lets calls be made -/
structure Okay (C : Cx) (A : Around) (St : Led → Shared → Prop) : Prop where
  ext : ∀ {Z s Z' s'}, St Z s → Ext Z s Z' s' → St Z' s'
  call : ∀ {Z s}, St Z s → Ground C A Z s

theorem Ground.has {C : Cx} {A : Around} {Z : Led} {s : Shared} (g : Ground C A Z s) : HasL s.heap Z := by
  obtain ⟨_, _, _, _, _, _, _, G⟩ := g
  exact fun p hp => (G.N p (by simpa using hp)).1
theorem Okay.has {C : Cx} {A : Around} {St : Led → Shared → Prop} (O : Okay C A St) {Z : Led} {s : Shared} (h : St Z s) : HasL s.heap Z := (O.call h).has

/-- room for k calls within calls -/
structure Room (A : Around) (k : Nat) : Prop where
  depth : A.depth + k ≤ 950
  units : A.units + 8 * k ≤ 4000

/-! ## Expressions -/
section
variable (C : Cx) (A : Around) (St : Led → Shared → Prop) (env : Env)
/-- the expression gives the data d; the heap only grows -/
def EvE (e : PySem.Expr) (d : PyData) : Prop :=
  ∀ Z s (K : Value → Shared → Prop) (E : Value → Shared → Prop), St Z s → (∀ v Z' s', Ext Z s Z' s' → Rp Z' v d → K v s') → wpAny (model C.prog C.w) A (eval e env) K E s
/-- the test comes out b -/
def EvB (e : PySem.Expr) (b : Bool) : Prop :=
  ∀ Z s (K : Bool → Shared → Prop) (E : Value → Shared → Prop), St Z s → (∀ Z' s', Ext Z s Z' s' → K b s') → wpAny (model C.prog C.w) A (isTrue e env (eval e env)) K E s
def EvEs (es : List PySem.Expr) (ds : List PyData) : Prop :=
  ∀ pos Z s (K : List Value → Shared → Prop) (E : Value → Shared → Prop), St Z s → (∀ vs Z' s', Ext Z s Z' s' → Rps Z' vs ds → K vs s') → wpAny (model C.prog C.w) A (spliced (backTo pos (starEach es env))) K E s
/-- a name that is a fixed value (a def, a class, a builtin) -/
def NmV (x : Str) (v : Value) : Prop :=
  ∀ pos Z s (K : Value → Shared → Prop) (E : Value → Shared → Prop), St Z s → K v s → wpAny (model C.prog C.w) A (eval (.Name x pos) env) K E s
end

/-- the contract of a def: called upon the data ds it gives d -/
def FnOK (C : Cx) (f : Addr) (k : Nat) (ds : List PyData) (d : PyData) : Prop :=
  ∀ A Z s vs (R : Result → Shared → Prop), Ground C A Z s → Room A k → A.handled = none → Rps Z vs ds → (∀ v Z' s', Ext Z s Z' s' → Rp Z' v d → R (.ok (.ret v)) s') →
    codeAny (model C.prog C.w) A (.call (.ref f) ⟨vs, []⟩) R s
def IsFn (C : Cx) (f : Addr) : Prop := ∃ oc od fd osl, C.K.lookup f = some ⟨oc, od, .func fd, osl⟩

section
variable {C : Cx} {A : Around} {St : Led → Shared → Prop} {env : Env}

theorem EvE.const_int {i : Int} {k : Nat} {pos : Pos} : EvE C A St env (.Constant (.int i) k pos) (.int i) := fun Z s K E _ hK =>
  wpAny_Constant_int (hK _ Z _ (.toks _) (.int _ _))
theorem EvE.const_bool {b : Bool} {k : Nat} {pos : Pos} : EvE C A St env (.Constant (.bool b) k pos) (.bool b) := fun Z s K E _ hK =>
  Constant_bool (hK _ Z _ .refl (.bool _))
theorem EvE.const_none {k : Nat} {pos : Pos} : EvE C A St env (.Constant .none k pos) .none := fun Z s K E _ hK =>
  Constant_none (hK _ Z _ .refl .none)

theorem EvEs.nil : EvEs C A St env [] [] := fun pos Z s K E _ hK => args_nil (hK _ Z _ .refl .nil)
theorem EvEs.cons (O : Okay C A St) {e : PySem.Expr} {es : List PySem.Expr} {d : PyData} {ds : List PyData} (h : EvE C A St env e d) (r : EvEs C A St env es ds)
    (he : starEach (e :: es) env = (false, eval e env) :: starEach es env := by rfl) : EvEs C A St env (e :: es) (d :: ds) := fun pos Z s K E hs hK =>
  args_cons (h Z s _ E hs fun v Z' s' x hv => r pos Z' s' _ E (O.ext hs x) fun vs Z'' s'' y hvs => hK _ _ _ (x.trans y) (.cons (hv.mono y.sub) hvs)) he

theorem EvB.plain (O : Okay C A St) {e : PySem.Expr} {b : Bool} (h : EvE C A St env e (.bool b))
    (he : ∀ whole, isTrue e env whole = (do let v ← whole; standAt e.pos; holding [v] (truthy v)) := by intro _; rfl) : EvB C A St env e b := fun Z s K E hs hK =>
  isTrue_plain (h Z s _ E hs fun v Z' s' x hv => by rw [hv.boolAt]; exact wpAny_truthy_bool (hK _ _ x)) (he _)
theorem EvB.not {e : PySem.Expr} {b : Bool} {pos : Pos} (h : EvB C A St env e b) : EvB C A St env (.UnaryOp .Not e pos) (!b) := fun Z s K E hs hK =>
  isTrue_not (h Z s _ E hs fun Z' s' x => hK Z' s' x)
theorem EvB.and_nil {pos : Pos} : EvB C A St env (.BoolOp .And [] pos) true := fun Z s K E _ hK => isTrue_and_nil (hK Z s .refl)
theorem EvB.or_nil {pos : Pos} : EvB C A St env (.BoolOp .Or [] pos) false := fun Z s K E _ hK => isTrue_or_nil (hK Z s .refl)
theorem EvB.and (O : Okay C A St) {e : PySem.Expr} {es : List PySem.Expr} {b c : Bool} {pos : Pos} (h : EvB C A St env e b) (r : b = true → EvB C A St env (.BoolOp .And es pos) c) :
    EvB C A St env (.BoolOp .And (e :: es) pos) (b && c) := fun Z s K E hs hK => by
  refine isTrue_and (h Z s _ E hs fun Z' s' x => ?_)
  cases b with
  | false => exact hK _ _ x
  | true =>
    simp only [if_true]
    exact r rfl Z' s' _ E (O.ext hs x) fun Z'' s'' y => hK _ _ (x.trans y)
theorem EvB.or (O : Okay C A St) {e : PySem.Expr} {es : List PySem.Expr} {b c : Bool} {pos : Pos} (h : EvB C A St env e b) (r : b = false → EvB C A St env (.BoolOp .Or es pos) c) :
    EvB C A St env (.BoolOp .Or (e :: es) pos) (b || c) := fun Z s K E hs hK => by
  refine isTrue_or (h Z s _ E hs fun Z' s' x => ?_)
  cases b with
  | true => exact hK _ _ x
  | false =>
    simp only [Bool.false_eq_true, if_false]
    exact r rfl Z' s' _ E (O.ext hs x) fun Z'' s'' y => hK _ _ (x.trans y)

/-- not, and, or as values -/
theorem EvE.not (O : Okay C A St) {e : PySem.Expr} {b : Bool} {pos : Pos} (h : EvE C A St env e (.bool b)) : EvE C A St env (.UnaryOp .Not e pos) (.bool (!b)) := fun Z s K E hs hK =>
  UnaryOp_ (h Z s _ E hs fun v Z' s' x hv => by rw [hv.boolAt]; exact not_of (wpAny_truthy_bool (hK _ _ _ x (.bool _))))
theorem EvE.bool_one {op : PySem.BoolOp} {e : PySem.Expr} {d : PyData} {pos : Pos} (h : EvE C A St env e d) : EvE C A St env (.BoolOp op [e] pos) d := fun Z s K E hs hK =>
  BoolOp_one (h Z s K E hs hK)
theorem EvE.and (O : Okay C A St) {e e2 : PySem.Expr} {es : List PySem.Expr} {b c : Bool} {pos : Pos} (h : EvE C A St env e (.bool b)) (r : b = true → EvE C A St env (.BoolOp .And (e2 :: es) pos) (.bool c)) :
    EvE C A St env (.BoolOp .And (e :: e2 :: es) pos) (.bool (b && c)) := fun Z s K E hs hK => by
  refine BoolOp_and (h Z s _ E hs fun v Z' s' x hv => ?_)
  rw [hv.boolAt]
  refine wpAny_truthy_bool ?_
  cases b with
  | false => exact hK _ _ _ x (.bool _)
  | true =>
    simp only [if_true]
    exact r rfl Z' s' _ E (O.ext hs x) fun v Z'' s'' y hv => hK _ _ _ (x.trans y) hv
theorem EvE.or (O : Okay C A St) {e e2 : PySem.Expr} {es : List PySem.Expr} {b c : Bool} {pos : Pos} (h : EvE C A St env e (.bool b)) (r : b = false → EvE C A St env (.BoolOp .Or (e2 :: es) pos) (.bool c)) :
    EvE C A St env (.BoolOp .Or (e :: e2 :: es) pos) (.bool (b || c)) := fun Z s K E hs hK => by
  refine BoolOp_or (h Z s _ E hs fun v Z' s' x hv => ?_)
  rw [hv.boolAt]
  refine wpAny_truthy_bool ?_
  cases b with
  | true => exact hK _ _ _ x (.bool _)
  | false =>
    simp only [Bool.false_eq_true, if_false]
    exact r rfl Z' s' _ E (O.ext hs x) fun v Z'' s'' y hv => hK _ _ _ (x.trans y) hv
end
end Mine

namespace Mine
open PySem PySem.W PySem.Spec PySem.Calls PyProof.Rows

section
variable {C : Cx} {A : Around} {St : Led → Shared → Prop} {env : Env}

theorem EvE.const_str {x : Str} {k : Nat} {pos : Pos} : EvE C A St env (.Constant (.str x) k pos) (.str x) := fun Z s K E _ hK =>
  wpAny_Constant_str (hK _ Z _ (.toks _) (.str _ _))

/-! ### operators -/
inductive BinR : PySem.Operator → PyData → PyData → PyData → Prop
  | add {i j : Int} : BinR .Add (.int i) (.int j) (.int (i + j))
  | sub {i j : Int} : BinR .Sub (.int i) (.int j) (.int (i - j))
  | mul {i j : Int} (h : i.natAbs < 2 ^ 62 ∨ j.natAbs < 2 ^ 62) : BinR .Mult (.int i) (.int j) (.int (i * j))
  | fdiv {i j : Int} (h : 0 < j) (h2 : j < 2 ^ 62) : BinR .FloorDiv (.int i) (.int j) (.int (i / j))
  | mod {i j : Int} (h : 0 < j) : BinR .Mod (.int i) (.int j) (.int (i % j))
  | pow {i j r : Int} (h : 0 ≤ j) (h2 : j ≤ 1000) (h3 : i.natAbs < 2 ^ 64) (hr : i ^ j.toNat = r) : BinR .Pow (.int i) (.int j) (.int r)
  | addL {ds es : List PyData} (h : ds.length + es.length ≤ 2 ^ 20) : BinR .Add (.list ds) (.list es) (.list (ds ++ es))
  | addT {ds es : List PyData} (h : ds.length + es.length ≤ 2 ^ 20) : BinR .Add (.tuple ds) (.tuple es) (.tuple (ds ++ es))

theorem intBits_small {i : Int} (h : i.natAbs < 2 ^ 62) : Builtin.Int.intBits i ≤ 64 := by
  unfold Builtin.Int.intBits
  split
  · omega
  · rename_i hi
    have h0 : i.natAbs ≠ 0 := by
      intro e; apply hi; simp at e; simp [e]
    have := (Nat.log2_lt h0).mpr h
    omega

theorem push_keeps {h : Heap} (o : Obj) : ∀ b x, h.get? b = some x → (h.push o).get? b = some x := fun _ _ e => Heap.get?_push_of_some _ e
theorem fresh_get (h : Heap) : h.get? h.objs.size = none := Heap.get?_none_of_le (Nat.le_refl _)

theorem binR_ok {op : PySem.Operator} {d1 d2 d : PyData} (hb : BinR op d1 d2 d) {Z : Led} {s : Shared} (H : HasL s.heap Z) {v1 v2 : Value} (r1 : Rp Z v1 d1) (r2 : Rp Z v2 d2)
    {K : Value → Shared → Prop} {E : Value → Shared → Prop} (hK : ∀ v Z' s', Ext Z s Z' s' → Rp Z' v d → K v s') : wpAny (model C.prog C.w) A (binaryOp op v1 v2) K E s := by
  cases hb with
  | add =>
    obtain ⟨t, rfl⟩ := r1.intAt; obtain ⟨u, rfl⟩ := r2.intAt
    exact P.add_int (hK _ Z _ (.toks _) (.int _ _))
  | sub =>
    obtain ⟨t, rfl⟩ := r1.intAt; obtain ⟨u, rfl⟩ := r2.intAt
    exact P.sub_int (hK _ Z _ (.toks _) (.int _ _))
  | mul h =>
    obtain ⟨t, rfl⟩ := r1.intAt; obtain ⟨u, rfl⟩ := r2.intAt
    exact P.mul_int (hK _ Z _ (.toks _) (.int _ _)) (h.elim (fun q => .of_left (intBits_small q)) fun q => .of_right (intBits_small q))
  | fdiv h h2 =>
    obtain ⟨t, rfl⟩ := r1.intAt; obtain ⟨u, rfl⟩ := r2.intAt
    rename_i i j
    refine floordiv_int (by omega) ?_ (.inl (PyProof.noPylong_of_log2 ?_))
    · rw [Int.fdiv_eq_ediv_of_nonneg _ (Int.le_of_lt h)]
      exact hK _ Z _ (.toks _) (.int _ _)
    · have h0 : j.natAbs ≠ 0 := by omega
      have : j.natAbs < 2 ^ 62 := by omega
      have := (Nat.log2_lt h0).mpr this
      omega
  | mod h =>
    obtain ⟨t, rfl⟩ := r1.intAt; obtain ⟨u, rfl⟩ := r2.intAt
    refine mod_int' (by omega) ?_
    rw [Int.fmod_eq_emod_of_nonneg _ (Int.le_of_lt h)]
    exact hK _ Z _ (.toks _) (.int _ _)
  | pow h h2 h3 hr =>
    obtain ⟨t, rfl⟩ := r1.intAt; obtain ⟨u, rfl⟩ := r2.intAt
    exact pow_int_small h (by omega) h3 (hr ▸ hK _ Z _ (.toks _) (.int _ _))
  | addL h =>
    obtain ⟨a, vs, rfl, hl, q1⟩ := r1.listAt H; obtain ⟨b, ws, rfl, hb, q2⟩ := r2.listAt H
    have l1 := q1.length
    have l2 := q2.length
    obtain ⟨⟨cls, dd, data, sl⟩, ho, hc, n, hd⟩ := id hl
    obtain ⟨⟨cls2, dd2, data2, sl2⟩, ho2, hc2, n2, hd2⟩ := id hb
    simp only at hc hd hc2 hd2
    subst hc hd hc2 hd2
    have e : vs.toArray ++ ws.toArray = (vs ++ ws).toArray := by simp
    refine concat_meets ⟨_, ho, rfl⟩ ⟨_, ho2, rfl⟩ noFill_list_add seq_list_add PySem.F.slot_list_add PySem.F.entry_list_add (PySem.F.args_list_add_2 _ _)
      (list_addW a b vs.toArray ws.toArray n n2 dd dd2 sl sl2 (by rw [List.size_toArray, List.size_toArray, sizeLine_eq]; omega)) ⟨ho, ho2, ?_⟩
    rw [e]
    exact hK _ _ _ (.more (push_keeps _) (fresh_get _) (Heap.get?_push_size _ rfl)) (.list (.head _) rfl rfl ((q1.append q2).mono fun _ hp => .tail _ hp))
  | addT h =>
    obtain ⟨a, vs, rfl, hl, q1⟩ := r1.tupleAt H; obtain ⟨b, ws, rfl, hb, q2⟩ := r2.tupleAt H
    have l1 := q1.length
    have l2 := q2.length
    obtain ⟨⟨cls, dd, data, sl⟩, ho, hc, n, hd⟩ := id hl
    obtain ⟨⟨cls2, dd2, data2, sl2⟩, ho2, hc2, n2, hd2⟩ := id hb
    simp only at hc hd hc2 hd2
    subst hc hd hc2 hd2
    have e : vs.toArray ++ ws.toArray = (vs ++ ws).toArray := by simp
    by_cases hv : vs = []
    · subst hv
      cases q1
      exact concat_meets ⟨_, ho, rfl⟩ ⟨_, ho2, rfl⟩ noFill_tuple_add seq_tuple_add PySem.F.slot_tuple_add PySem.F.entry_tuple_add (PySem.F.args_tuple_add_2 _ _)
        (tuple_addW0 a b #[] ws.toArray n n2 dd dd2 sl sl2 rfl) ⟨ho, ho2, hK _ Z _ .refl (by simpa using r2)⟩
    · by_cases hw : ws = []
      · subst hw
        cases q2
        exact concat_meets ⟨_, ho, rfl⟩ ⟨_, ho2, rfl⟩ noFill_tuple_add seq_tuple_add PySem.F.slot_tuple_add PySem.F.entry_tuple_add (PySem.F.args_tuple_add_2 _ _)
          (tuple_addW1 a b vs.toArray #[] n n2 dd dd2 sl sl2 (by simpa using hv) rfl) ⟨ho, ho2, hK _ Z _ .refl (by simpa using r1)⟩
      · refine concat_meets ⟨_, ho, rfl⟩ ⟨_, ho2, rfl⟩ noFill_tuple_add seq_tuple_add PySem.F.slot_tuple_add PySem.F.entry_tuple_add (PySem.F.args_tuple_add_2 _ _)
          (tuple_addW2 a b vs.toArray ws.toArray n n2 dd dd2 sl sl2 (by simpa using hv) (by simpa using hw) (by rw [List.size_toArray, List.size_toArray, sizeLine_eq]; omega)) ⟨ho, ho2, ?_⟩
        rw [e]
        exact hK _ _ _ (.more (push_keeps _) (fresh_get _) (Heap.get?_push_size _ rfl)) (.tuple (.head _) rfl rfl ((q1.append q2).mono fun _ hp => .tail _ hp))

theorem EvE.bin (O : Okay C A St) {op : PySem.Operator} {l r : PySem.Expr} {pos : Pos} {d1 d2 d : PyData} (h1 : EvE C A St env l d1) (h2 : EvE C A St env r d2) (hb : BinR op d1 d2 d) :
    EvE C A St env (.BinOp l op r pos) d := fun Z s K E hs hK =>
  wpAny_BinOp (h1 Z s _ E hs fun v1 Z1 s1 x1 r1 => h2 Z1 s1 _ E (O.ext hs x1) fun v2 Z2 s2 x2 r2 =>
    binR_ok hb (O.has (O.ext (O.ext hs x1) x2)) (r1.mono x2.sub) r2 fun v Z3 s3 x3 r3 => hK _ _ _ ((x1.trans x2).trans x3) r3)

/-! ### comparisons -/
inductive CmpR : PySem.CmpOp → PyData → PyData → Bool → Prop
  | lt {i j : Int} : CmpR .Lt (.int i) (.int j) (decide (i < j))
  | le {i j : Int} : CmpR .LtE (.int i) (.int j) (decide (i ≤ j))
  | gt {i j : Int} : CmpR .Gt (.int i) (.int j) (decide (j < i))
  | ge {i j : Int} : CmpR .GtE (.int i) (.int j) (decide (j ≤ i))
  | eq_int {i j : Int} : CmpR .Eq (.int i) (.int j) (decide (i = j))
  | ne_int {i j : Int} : CmpR .NotEq (.int i) (.int j) (!decide (i = j))
  | eq_str {x y : Str} : CmpR .Eq (.str x) (.str y) (decide (x = y))
  | ne_str {x y : Str} : CmpR .NotEq (.str x) (.str y) (!decide (x = y))
  | eq {d1 d2 : PyData} (h1 : SeqAt.shaped d1 = true) (h2 : SeqAt.shaped d2 = true) : CmpR .Eq d1 d2 (PyData.eqv d1 d2)
  | ne {d1 d2 : PyData} (h1 : SeqAt.shaped d1 = true) (h2 : SeqAt.shaped d2 = true) : CmpR .NotEq d1 d2 (!PyData.eqv d1 d2)
  | is_none : CmpR .Is .none .none true
  | is_tup {ds : List PyData} : CmpR .Is (.tuple ds) .none false
  | isIn {ds : List PyData} {d : PyData} (h1 : SeqAt.shaped (.list ds) = true) (h2 : SeqAt.shaped d = true) : CmpR .In d (.list ds) (ds.any fun y => PyData.eqv y d)

theorem cmpR_ok (hu : A.units + 200 < cLine) {op : PySem.CmpOp} {d1 d2 : PyData} {b : Bool} (hb : CmpR op d1 d2 b) {Z : Led} {s : Shared} (H : HasL s.heap Z) {v1 v2 : Value} (r1 : Rp Z v1 d1) (r2 : Rp Z v2 d2)
    {K : Value → Shared → Prop} {E : Value → Shared → Prop} (hK : ∀ Z' s', Ext Z s Z' s' → K (.bool b) s') : wpAny (model C.prog C.w) A (compareOp op v1 v2) K E s := by
  cases hb with
  | lt => obtain ⟨t, rfl⟩ := r1.intAt; obtain ⟨u, rfl⟩ := r2.intAt; exact P.lt_int (hK Z _ .refl)
  | le => obtain ⟨t, rfl⟩ := r1.intAt; obtain ⟨u, rfl⟩ := r2.intAt; exact P.le_int (hK Z _ .refl)
  | gt => obtain ⟨t, rfl⟩ := r1.intAt; obtain ⟨u, rfl⟩ := r2.intAt; exact P.gt_int (hK Z _ .refl)
  | ge => obtain ⟨t, rfl⟩ := r1.intAt; obtain ⟨u, rfl⟩ := r2.intAt; exact P.ge_int (hK Z _ .refl)
  | eq_int => obtain ⟨t, rfl⟩ := r1.intAt; obtain ⟨u, rfl⟩ := r2.intAt; exact P.eq_int (hK Z _ .refl)
  | ne_int => obtain ⟨t, rfl⟩ := r1.intAt; obtain ⟨u, rfl⟩ := r2.intAt; exact P.ne_int (hK Z _ .refl)
  | eq_str => obtain ⟨t, rfl⟩ := r1.strAt; obtain ⟨u, rfl⟩ := r2.strAt; exact PyProof.Rows.eq_str (hK Z _ .refl)
  | ne_str => obtain ⟨t, rfl⟩ := r1.strAt; obtain ⟨u, rfl⟩ := r2.strAt; exact PyProof.Rows.ne_str (hK Z _ .refl)
  | eq h1 h2 =>
    obtain ⟨as, q1⟩ := r1.reads H; obtain ⟨bs, q2⟩ := r2.reads H
    exact eq_dataH q1 q2 h1 h2 (by omega) (hK Z _ .refl)
  | ne h1 h2 =>
    obtain ⟨as, q1⟩ := r1.reads H; obtain ⟨bs, q2⟩ := r2.reads H
    exact ne_dataH q1 q2 h1 h2 (by omega) (hK Z _ .refl)
  | is_none => rw [r1.noneAt, r2.noneAt]; exact wpAny_is_self rfl (hK Z _ .refl)
  | is_tup =>
    obtain ⟨a, vs, rfl, _, _⟩ := r1.tupleAt H
    rw [r2.noneAt]; exact is_ref_none (hK Z _ .refl)
  | isIn h1 h2 =>
    obtain ⟨as, q2⟩ := r2.reads H; obtain ⟨bs, q1⟩ := r1.reads H
    unfold SeqAt.shaped at h1 h2
    simp only [Bool.and_eq_true, decide_eq_true_eq, PyData.canLay0, PyData.depth] at h1 h2
    refine SeqAt.in_list_reads q2 q1 h1.1 h2.1 ?_ (hK Z _ .refl)
    have := Nat.min_le_right (PyData.depthAll ‹_›) (PyData.depth d1)
    omega

theorem EvE.cmp (O : Okay C A St) (hu : A.units + 200 < cLine) {op : PySem.CmpOp} {l r : PySem.Expr} {pos : Pos} {d1 d2 : PyData} {b : Bool} (h1 : EvE C A St env l d1) (h2 : EvE C A St env r d2) (hb : CmpR op d1 d2 b)
    (hm : behindInMarks op r = false := by with_unfolding_all rfl) : EvE C A St env (.Compare l [op] [r] pos) (.bool b) := fun Z s K E hs hK =>
  wpAny_Compare1 (h1 Z s _ E hs fun v1 Z1 s1 x1 r1 => h2 Z1 s1 _ E (O.ext hs x1) fun v2 Z2 s2 x2 r2 =>
    cmpR_ok hu hb (O.has (O.ext (O.ext hs x1) x2)) (r1.mono x2.sub) r2 fun Z3 s3 x3 => hK _ _ _ ((x1.trans x2).trans x3) (.bool _)) hm
theorem EvB.cmp (O : Okay C A St) (hu : A.units + 200 < cLine) {op : PySem.CmpOp} {l r : PySem.Expr} {pos : Pos} {d1 d2 : PyData} {b : Bool} (h1 : EvE C A St env l d1) (h2 : EvE C A St env r d2) (hb : CmpR op d1 d2 b)
    (hm : behindInMarks op r = false := by with_unfolding_all rfl) : EvB C A St env (.Compare l [op] [r] pos) b := fun Z s K E hs hK =>
  wpAny_isTrue_Compare1 (h1 Z s _ E hs fun v1 Z1 s1 x1 r1 => h2 Z1 s1 _ E (O.ext hs x1) fun v2 Z2 s2 x2 r2 =>
    cmpR_ok hu hb (O.has (O.ext (O.ext hs x1) x2)) (r1.mono x2.sub) r2 fun Z3 s3 x3 => wpAny_truthy_bool (hK _ _ ((x1.trans x2).trans x3))) hm

/-! ### displays -/
theorem EvE.list (O : Okay C A St) {es : List PySem.Expr} {pos : Pos} {ds : List PyData} (h : EvEs C A St env es ds) (hz : ds.length ≤ 2 ^ 20 := by decide) : EvE C A St env (.List es pos) (.list ds) := fun Z s K E hs hK =>
  List_ (h pos Z s _ E hs fun vs Z1 s1 x1 r1 => wpAny_newList (hK _ _ _ (x1.trans (.more (tk := s1.toks) (push_keeps _) (fresh_get _) (Heap.get?_push_size _ rfl))) (.list (.head _) rfl rfl (r1.mono fun _ hp => .tail _ hp)))
    (by rw [r1.length, sizeLine_eq]; omega))
theorem EvE.tuple (O : Okay C A St) {es : List PySem.Expr} {k : Nat} {pos : Pos} {ds : List PyData} (h : EvEs C A St env es ds) (hz : ds.length ≤ 2 ^ 20 := by decide) : EvE C A St env (.Tuple es k pos) (.tuple ds) := fun Z s K E hs hK =>
  Tuple_ (h pos Z s _ E hs fun vs Z1 s1 x1 r1 => wpAny_newTuple (hK _ _ _ (x1.trans (.more (tk := s1.toks) (push_keeps _) (fresh_get _) (Heap.get?_push_size _ rfl))) (.tuple (.head _) rfl rfl (r1.mono fun _ hp => .tail _ hp)))
    (by rw [r1.length, sizeLine_eq]; omega))

/-! ### items -/
theorem idx_cases {i : Int} {n j : Nat} (hj : seqIndex? i n = some j) : (0 ≤ i ∧ i < n ∧ j = i.toNat) ∨ (i < 0 ∧ 0 ≤ i + n ∧ j = (i + n).toNat) := by
  unfold seqIndex? at hj
  by_cases hi : i < 0
  · simp only [if_pos hi] at hj
    by_cases hc : (decide (0 ≤ i + (n : Int)) && decide (i + (n : Int) < (n : Int))) = true
    · rw [if_pos hc] at hj
      simp only [Bool.and_eq_true, decide_eq_true_eq] at hc
      exact .inr ⟨hi, hc.1, (Option.some.inj hj).symm⟩
    · rw [if_neg hc] at hj; cases hj
  · simp only [if_neg hi] at hj
    by_cases hc : (decide (0 ≤ i) && decide (i < (n : Int))) = true
    · rw [if_pos hc] at hj
      simp only [Bool.and_eq_true, decide_eq_true_eq] at hc
      exact .inl ⟨hc.1, hc.2, (Option.some.inj hj).symm⟩
    · rw [if_neg hc] at hj; cases hj
theorem idx_pos {i : Int} {n : Nat} (h0 : 0 ≤ i) (h1 : i < n) : seqIndex? i n = some i.toNat := by
  unfold seqIndex?
  simp only [if_neg (show ¬ i < 0 by omega)]
  exact if_pos (by simp; omega)
theorem idx_neg {i : Int} {n : Nat} (h0 : i < 0) (h1 : 0 ≤ i + n) : seqIndex? i n = some (i + n).toNat := by
  unfold seqIndex?
  simp only [if_pos h0]
  exact if_pos (by simp; omega)
theorem idx_bound {i : Int} {n j : Nat} (hz : n ≤ 2 ^ 40) (hj : seqIndex? i n = some j) : -(2 ^ 40 : Int) ≤ i ∧ i < 2 ^ 40 := by
  rcases idx_cases hj with h | h <;> omega

theorem list_item_raw {value slice : PySem.Expr} {a : Addr} {vs : List Value} {v : Value} {i : Int} {t : Tok} {j : Nat} {s : Shared} (hl : s.heap.IsList a vs.toArray) (hz : vs.length ≤ 2 ^ 40) (hj : seqIndex? i vs.length = some j) (hv : vs[j]? = some v)
    (hs : subscripted slice false (.ref a) (.int i t) = operate [.ref a, .int i t] (getItem (.ref a) (.int i t)))
    {K : Value → Shared → Prop} {E : Value → Shared → Prop} (hK : K v s) : wpAny (model C.prog C.w) A (subscriptTail value slice (.ref a) (.int i t)) K E s := by
  have hb := idx_bound hz hj
  have hg : wpAny (model C.prog C.w) A (getItem (.ref a) (.int i t)) K E s := by
    rcases idx_cases hj with ⟨h0, h1, rfl⟩ | ⟨h0, h1, rfl⟩
    · exact wpAny_getItem_list hl h0 (by omega) (x := v) (by simpa using hv) hK
    · refine wpAny_getItem_list_neg hl h0 (by rw [List.size_toArray]; omega) (by omega) (x := v) ?_ hK
      rw [List.size_toArray]; simpa using hv
  exact tail_any hl.typeIs slot_list_getitem.lookup hg hs

theorem item_ok {value slice : PySem.Expr} {d d' : PyData} {ds : List PyData} {i : Int} {j : Nat} (hd : d = .list ds ∨ d = .tuple ds) (hz : ds.length ≤ 2 ^ 40) (hj : seqIndex? i ds.length = some j) (hx : ds[j]? = some d')
    {Z : Led} {s : Shared} (H : HasL s.heap Z) {v1 v2 : Value} (r1 : Rp Z v1 d) (r2 : Rp Z v2 (.int i))
    (hs : ∀ a t, subscripted slice false (.ref a) (.int i t) = operate [.ref a, .int i t] (getItem (.ref a) (.int i t)))
    {K : Value → Shared → Prop} {E : Value → Shared → Prop} (hK : ∀ v, Rp Z v d' → K v s) : wpAny (model C.prog C.w) A (subscriptTail value slice v1 v2) K E s := by
  obtain ⟨t, rfl⟩ := r2.intAt
  have hb := idx_bound hz hj
  rcases hd with rfl | rfl
  · obtain ⟨a, vs, rfl, hl, q⟩ := r1.listAt H
    obtain ⟨v, hv, rv⟩ := q.get hx
    have l := q.length
    exact list_item_raw hl (by omega) (by rw [l]; exact hj) hv (hs a t) (hK v rv)
  · obtain ⟨a, vs, rfl, hl, q⟩ := r1.tupleAt H
    obtain ⟨v, hv, rv⟩ := q.get hx
    have l := q.length
    exact item_tupleT hl (by omega) (by omega) (by rw [l]; exact hj) hv (hK v rv) (hs a t)

def notSlice : PySem.Expr → Bool
  | .Slice .. => false
  | _ => true
theorem sub_plain {slice : PySem.Expr} (h : notSlice slice = true) (o i : Value) : subscripted slice false o i = operate [o, i] (getItem o i) := by
  cases slice <;> first | rfl | cases h

theorem EvE.item (O : Okay C A St) {value slice : PySem.Expr} {pos : Pos} {d d' : PyData} {ds : List PyData} {i : Int} {j : Nat} (h1 : EvE C A St env value d) (h2 : EvE C A St env slice (.int i))
    (hd : d = .list ds ∨ d = .tuple ds) (hz : ds.length ≤ 2 ^ 40) (hj : seqIndex? i ds.length = some j) (hx : ds[j]? = some d')
    (hs : notSlice slice = true := by with_unfolding_all rfl) :
    EvE C A St env (.Subscript value slice pos) d' := fun Z s K E hs' hK =>
  Subscript_ (h1 Z s _ E hs' fun v1 Z1 s1 x1 r1 => h2 Z1 s1 _ E (O.ext hs' x1) fun v2 Z2 s2 x2 r2 =>
    item_ok hd hz hj hx (O.has (O.ext (O.ext hs' x1) x2)) (r1.mono x2.sub) r2 (fun _ _ => sub_plain hs _ _) fun v rv => hK _ _ _ (x1.trans x2) rv)

theorem EvE.neg (O : Okay C A St) {e : PySem.Expr} {i : Int} {pos : Pos} (h : EvE C A St env e (.int i)) : EvE C A St env (.UnaryOp .USub e pos) (.int (-i)) := fun Z s K E hs hK =>
  UnaryOp_ (h Z s _ E hs fun v Z' s' x hv => by obtain ⟨t, rfl⟩ := hv.intAt; exact P.neg_int (hK _ _ _ (x.trans (.toks _)) (.int _ _)))

/-! ### calls -/
theorem EvE.call (O : Okay C A St) {k : Nat} (hr : Room A k) (hh : A.handled = none) {x : Str} {np pos : Pos} {e : PySem.Expr} {es : List PySem.Expr} {f : Addr} {ds : List PyData} {d : PyData}
    (hn : NmV C A St env x (.ref f)) (hfn : IsFn C f) (ha : EvEs C A St env (e :: es) ds) (hf : FnOK C f k ds d)
    (he : starEach (e :: es) env = (false, eval e env) :: starEach es env := by rfl) : EvE C A St env (.Call (.Name x np) (e :: es) [] pos) d := fun Z s K E hs hK => by
  obtain ⟨oc, od, fd, osl, hl⟩ := hfn
  refine Call_ (hn np Z s _ E hs ?_)
  refine callWith_def (o := ⟨oc, od, .func fd, osl⟩) rfl (ha pos Z s _ E hs fun vs Z1 s1 x1 r1 => ?_) he
  have g := O.call (O.ext hs x1)
  refine ⟨?_, wpAny_call (hf A Z1 s1 vs _ g hr hh r1 fun v Z2 s2 x2 rv => hK _ _ _ (x1.trans x2) rv)⟩
  obtain ⟨_, _, _, _, _, _, _, G⟩ := g
  exact G.F.keep _ _ (G.X _ _ hl)

/-- a builtin function's rule -/
def BiOK (C : Cx) (A : Around) (f : Value) (ds : List PyData) (d : PyData) : Prop :=
  ∀ Z s vs (K : Value → Shared → Prop) (E : Value → Shared → Prop), HasL s.heap Z → Rps Z vs ds → (∀ v Z' s', Ext Z s Z' s' → Rp Z' v d → K v s') → wpAny (model C.prog C.w) A (PySem.call f vs) K E s

theorem EvE.callB (O : Okay C A St) {x : Str} {np pos : Pos} {e : PySem.Expr} {es : List PySem.Expr} {id : String} {ds : List PyData} {d : PyData}
    (hn : NmV C A St env x (.builtin id)) (ha : EvEs C A St env (e :: es) ds) (hf : BiOK C A (.builtin id) ds d)
    (he : starEach (e :: es) env = (false, eval e env) :: starEach es env := by rfl) (hp : (backTo pos (starEach es env)).any (·.1) = false := by rfl) :
    EvE C A St env (.Call (.Name x np) (e :: es) [] pos) d := fun Z s K E hs hK =>
  Call_ (hn np Z s _ E hs (PyProof.Rows.callWith_builtin1 (ha pos Z s _ E hs fun vs Z1 s1 x1 r1 => hf Z1 s1 vs _ E (O.has (O.ext hs x1)) r1 fun v Z2 s2 x2 rv => hK _ _ _ (x1.trans x2) rv) he hp))
theorem EvE.callT (O : Okay C A St) {x : Str} {np pos : Pos} {e : PySem.Expr} {es : List PySem.Expr} {id : String} {ds : List PyData} {d : PyData}
    (hn : NmV C A St env x (.type id)) (ha : EvEs C A St env (e :: es) ds) (hf : BiOK C A (.type id) ds d)
    (he : starEach (e :: es) env = (false, eval e env) :: starEach es env := by rfl) (hp : (backTo pos (starEach es env)).any (·.1) = false := by rfl) :
    EvE C A St env (.Call (.Name x np) (e :: es) [] pos) d := fun Z s K E hs hK =>
  Call_ (hn np Z s _ E hs (PyProof.Rows.callWith_type1 (ha pos Z s _ E hs fun vs Z1 s1 x1 r1 => hf Z1 s1 vs _ E (O.has (O.ext hs x1)) r1 fun v Z2 s2 x2 rv => hK _ _ _ (x1.trans x2) rv) he hp))

theorem bi_len {d : PyData} {ds : List PyData} (hd : d = .list ds ∨ d = .tuple ds) (hz : ds.length ≤ 2 ^ 40) : BiOK C A (.builtin "len") [d] (.int ds.length) := by
  intro Z s vs K E H r hK
  cases r with
  | cons r1 r2 =>
    cases r2
    rcases hd with rfl | rfl
    · obtain ⟨a, vs, rfl, hl, q⟩ := r1.listAt H
      have l := q.length
      refine PyProof.Rows.len_list hl (by rw [List.size_toArray, l]; omega) ?_
      rw [List.size_toArray, l]
      exact hK _ Z _ (.toks _) (.int _ _)
    · obtain ⟨a, vs, rfl, hl, q⟩ := r1.tupleAt H
      have l := q.length
      refine PyProof.Rows.len_tuple hl (by rw [List.size_toArray, l]; omega) ?_
      rw [List.size_toArray, l]
      exact hK _ Z _ (.toks _) (.int _ _)
theorem bi_max (hh : A.handled = none) {i j : Int} : BiOK C A (.builtin "max") [.int i, .int j] (.int (if j > i then j else i)) := by
  intro Z s vs K E H r hK
  cases r with
  | cons r1 r2 => cases r2 with
    | cons r2 r3 =>
      cases r3
      obtain ⟨t, rfl⟩ := r1.intAt; obtain ⟨u, rfl⟩ := r2.intAt
      refine max_two_ints hh fun h' tk hk => hK _ Z _ (.grow hk) ?_
      split <;> exact .int _ _
theorem bi_min (hh : A.handled = none) {i j : Int} : BiOK C A (.builtin "min") [.int i, .int j] (.int (if j < i then j else i)) := by
  intro Z s vs K E H r hK
  cases r with
  | cons r1 r2 => cases r2 with
    | cons r2 r3 =>
      cases r3
      obtain ⟨t, rfl⟩ := r1.intAt; obtain ⟨u, rfl⟩ := r2.intAt
      refine min_two_ints hh fun h' tk hk => hK _ Z _ (.grow hk) ?_
      split <;> exact .int _ _
theorem bi_list {d : PyData} {ds : List PyData} (hd : d = .list ds ∨ d = .tuple ds) (hz : ds.length ≤ 2 ^ 20) : BiOK C A (.type "list") [d] (.list ds) := by
  intro Z s vs K E H r hK
  cases r with
  | cons r1 r2 =>
    cases r2
    rcases hd with rfl | rfl
    · obtain ⟨a, vs, rfl, ⟨o, ho, hc, n, hd⟩, q⟩ := r1.listAt H
      have l := q.length
      exact call_list_seq a (.inl rfl) ho hc hd (fun h' c' hk hD => hK _ _ _ (.more (tk := s.toks) hk (fresh_get _) hD) (.list (.head _) rfl rfl (q.mono fun _ hp => .tail _ hp))) (by rw [List.size_toArray, l, sizeLine_eq]; omega)
    · obtain ⟨a, vs, rfl, ⟨o, ho, hc, n, hd⟩, q⟩ := r1.tupleAt H
      have l := q.length
      exact call_list_seq a (.inr rfl) ho hc hd (fun h' c' hk hD => hK _ _ _ (.more (tk := s.toks) hk (fresh_get _) hD) (.list (.head _) rfl rfl (q.mono fun _ hp => .tail _ hp))) (by rw [List.size_toArray, l, sizeLine_eq]; omega)
theorem bi_tuple {ds : List PyData} (hz : ds.length ≤ 2 ^ 20) : BiOK C A (.type "tuple") [.list ds] (.tuple ds) := by
  intro Z s vs K E H r hK
  cases r with
  | cons r1 r2 =>
    cases r2
    obtain ⟨a, vs, rfl, hl, q⟩ := r1.listAt H
    have l := q.length
    exact call_tuple_list hl (fun h' hk => hK _ _ _ (.more (tk := s.toks) (fun b o e => Heap.get?_push_of_some _ (hk b o e)) (none_of_keep hk (fresh_get _)) (Heap.get?_push_size _ rfl)) (.tuple (.head _) rfl rfl (q.mono fun _ hp => .tail _ hp)))
      (by rw [List.size_toArray, l, sizeLine_eq]; omega)
end
end Mine

namespace Mine
open PySem PySem.W PySem.Spec PySem.Calls PyProof.Rows

/-! ## The store of a def's names -/
inductive Slot where
  | undef
  | dat (d : PyData)
  | own (ds : List PyData)

/-- a frame's fixed things -/
structure Fx where
  A₀ : Around
  base : Heap
  outer : List Env
  h₀ : Heap
  L : Addr
  env : Env
  ns : List Str

structure FxOK (C : Cx) (A : Around) (F : Fx) : Prop where
  B : Below F.A₀ F.base F.outer F.h₀
  X : C.K.In F.h₀
  T : TopRead C.p C.loose C.mg C.mb F.h₀
  hA : A.frames = some (F.env :: F.outer)
  hf : F.env.frame = some F.L
  hl : F.env.locals = F.L
  hk : F.env.scope.kind = .function
  hg : F.env.globals = mainGlobals
  hb : F.env.builtins = builtinsNs
  nd : F.ns.Nodup
  kinds : ∀ x ∈ F.ns, (x == ("__debug__" : Str)) = false ∧ (F.env.kindOf x = some .local ∨ (F.env.kindOf x = some .cell ∧ ∃ c, F.env.cells.lookup x = some c))
  cinj : ∀ x y c, F.env.cells.lookup x = some c → F.env.cells.lookup y = some c → x = y

/-- where a name's value lies -/
def At (env : Env) (m : Str → Option Value) (muts : Led) (x : Str) (v : Value) : Prop :=
  (env.kindOf x = some .local ∧ m x = some v) ∨ (env.kindOf x = some .cell ∧ ∃ c o, env.cells.lookup x = some c ∧ (c, o) ∈ muts ∧ o.data = .cell (some v))

def IsOwn (muts : Led) (Z : Led) (a : Addr) (ds : List PyData) : Prop := ∃ o vs n, (a, o) ∈ muts ∧ o.cls = .type "list" ∧ o.dict = none ∧ o.data = .seq (List.toArray vs) n ∧ Rps Z vs ds

def SlotAt (env : Env) (m : Str → Option Value) (muts Z : Led) (a : Addr) (x : Str) : Slot → Prop
  | .undef => True
  | .dat d => ∃ v, At env m muts x v ∧ Rp Z v d
  | .own ds => At env m muts x (.ref a) ∧ IsOwn muts Z a ds

structure FIn (F : Fx) (ρ : List Slot) (pin Z : Led) (s : Shared) (m : Str → Option Value) (muts : Led) (oa : Nat → Addr) : Prop where
  fr : Fr F.h₀ F.L s.heap m
  nw : News F.h₀ F.L s.heap (pin ++ (muts ++ Z))
  d1 : ∀ p ∈ muts, ∀ q ∈ pin ++ Z, p.1 ≠ q.1
  d2 : ∀ p ∈ pin, ∀ q ∈ Z, p.1 ≠ q.1
  slots : ∀ i x sl, F.ns[i]? = some x → ρ[i]? = some sl → SlotAt F.env m muts Z (oa i) x sl
  inj : ∀ i j x y ds es, F.ns[i]? = some x → F.ns[j]? = some y → ρ[i]? = some (.own ds) → ρ[j]? = some (.own es) → oa i = oa j → i = j
  cells : ∀ x c, F.env.cells.lookup x = some c → ∃ o v, (c, o) ∈ muts ∧ o.data = .cell v

def FSt (F : Fx) (ρ : List Slot) (pin Z : Led) (s : Shared) : Prop := ∃ m muts oa, FIn F ρ pin Z s m muts oa
def FS (F : Fx) (ρ : List Slot) (Z : Led) (s : Shared) : Prop := ∃ pin, FSt F ρ pin Z s

theorem At.mono {env : Env} {m : Str → Option Value} {muts muts' : Led} {x : Str} {v : Value} (h : At env m muts x v) (k : ∀ c o w, (c, o) ∈ muts → o.data = .cell w → (c, o) ∈ muts') : At env m muts' x v := by
  rcases h with h | ⟨h1, c, o, h2, h3, h4⟩
  · exact .inl h
  · exact .inr ⟨h1, c, o, h2, k c o _ h3 h4, h4⟩

section
variable {C : Cx} {A : Around} {F : Fx} {ρ : List Slot} {pin Z : Led} {s : Shared}

theorem FIn.has {m : Str → Option Value} {muts : Led} {oa : Nat → Addr} (h : FIn F ρ pin Z s m muts oa) : HasL s.heap Z := fun p hp => (h.nw p (by simp [hp])).1
theorem FIn.newsZ {m : Str → Option Value} {muts : Led} {oa : Nat → Addr} (h : FIn F ρ pin Z s m muts oa) : News F.h₀ F.L s.heap Z := fun p hp => h.nw p (by simp [hp])

theorem SlotAt.ext {env : Env} {m : Str → Option Value} {muts Z Z' : Led} {a : Addr} {x : Str} {sl : Slot} (h : SlotAt env m muts Z a x sl) (k : ∀ p ∈ Z, p ∈ Z') : SlotAt env m muts Z' a x sl := by
  cases sl with
  | undef => trivial
  | dat d => obtain ⟨v, h1, h2⟩ := h; exact ⟨v, h1, h2.mono k⟩
  | own ds => obtain ⟨h1, o, vs, n, h2, h3, h4, h5, h6⟩ := h; exact ⟨h1, o, vs, n, h2, h3, h4, h5, h6.mono k⟩

theorem FIn.ext {m : Str → Option Value} {muts : Led} {oa : Nat → Addr} {Z' : Led} {s' : Shared} (h : FIn F ρ pin Z s m muts oa) (x : Ext Z s Z' s') : FIn F ρ pin Z' s' m muts oa := by
  have hnew : ∀ p ∈ Z', p ∉ Z → F.h₀.get? p.1 = none ∧ p.1 ≠ F.L ∧ s.heap.get? p.1 = none := fun p hp hz => by
    rcases x.new p hp with q | ⟨q1, q2⟩
    · exact absurd q hz
    · refine ⟨none_of_keep h.fr.keep q1, fun e => ?_, q1⟩
      obtain ⟨oL, _, _, hL, _⟩ := h.fr.ns
      rw [e, hL] at q1; cases q1
  refine ⟨⟨h.fr.ns.keeps x.keep, fun b o e => x.keep b o (h.fr.keep b o e), h.fr.above⟩, fun p hp => ?_, fun p hp q hq => ?_, fun p hp q hq => ?_, fun i y sl hi hs => (h.slots i y sl hi hs).ext x.sub, h.inj, h.cells⟩
  · rcases List.mem_append.mp hp with hp | hp
    · have := h.nw p (List.mem_append_left _ hp); exact ⟨x.keep _ _ this.1, this.2⟩
    · rcases List.mem_append.mp hp with hp | hp
      · have := h.nw p (List.mem_append_right _ (List.mem_append_left _ hp)); exact ⟨x.keep _ _ this.1, this.2⟩
      · rcases x.new p hp with q | ⟨q1, q2⟩
        · have := h.nw p (List.mem_append_right _ (List.mem_append_right _ q)); exact ⟨x.keep _ _ this.1, this.2⟩
        · refine ⟨q2, fun e => ?_, none_of_keep h.fr.keep q1⟩
          obtain ⟨oL, _, _, hL, _⟩ := h.fr.ns
          rw [e, hL] at q1; cases q1
  · rcases List.mem_append.mp hq with hq | hq
    · exact h.d1 p hp q (List.mem_append_left _ hq)
    · rcases x.new q hq with r | ⟨r1, r2⟩
      · exact h.d1 p hp q (List.mem_append_right _ r)
      · intro e
        have := (h.nw p (List.mem_append_right _ (List.mem_append_left _ hp))).1
        rw [e, r1] at this; cases this
  · rcases x.new q hq with r | ⟨r1, r2⟩
    · exact h.d2 p hp q r
    · intro e
      have := (h.nw p (List.mem_append_left _ hp)).1
      rw [e, r1] at this; cases this

theorem FSt.ext {Z' : Led} {s' : Shared} (h : FSt F ρ pin Z s) (x : Ext Z s Z' s') : FSt F ρ pin Z' s' := by
  obtain ⟨m, muts, oa, h⟩ := h
  exact ⟨m, muts, oa, h.ext x⟩

theorem FxOK.gnd (hF : FxOK C A F) {m : Str → Option Value} {muts : Led} {oa : Nat → Addr} (h : FIn F ρ pin Z s m muts oa) : Gnd C A F.A₀ F.base F.outer F.h₀ F.L m F.env [] Z s :=
  ⟨hF.B, h.fr, by simpa using h.newsZ, hF.X, hF.T, hF.hA, hF.hf, hF.hk⟩

theorem FxOK.okay (hF : FxOK C A F) (ρ : List Slot) : Okay C A (FS F ρ) where
  ext := fun ⟨pin, h⟩ x => ⟨pin, h.ext x⟩
  call := fun ⟨_, m, _, _, h⟩ => ⟨_, _, _, _, _, m, _, hF.gnd h⟩

/-! ### names -/
inductive Var : List Str → List Slot → Str → Nat → Slot → Prop
  | here {x : Str} {ns : List Str} {sl : Slot} {ρ : List Slot} : Var (x :: ns) (sl :: ρ) x 0 sl
  | there {x y : Str} {ns : List Str} {sl sl' : Slot} {ρ : List Slot} {i : Nat} : Var ns ρ x i sl → Var (y :: ns) (sl' :: ρ) x (i + 1) sl
theorem Var.at {ns : List Str} {ρ : List Slot} {x : Str} {i : Nat} {sl : Slot} (h : Var ns ρ x i sl) : ns[i]? = some x ∧ ρ[i]? = some sl := by
  induction h with
  | here => exact ⟨rfl, rfl⟩
  | there _ ih => simpa using ih
inductive Upd : List Str → List Slot → Str → Slot → Nat → List Slot → Prop
  | here {x : Str} {ns : List Str} {sl sl' : Slot} {ρ : List Slot} : Upd (x :: ns) (sl :: ρ) x sl' 0 (sl' :: ρ)
  | there {x y : Str} {ns : List Str} {sl sl' : Slot} {ρ ρ' : List Slot} {i : Nat} : Upd ns ρ x sl' i ρ' → Upd (y :: ns) (sl :: ρ) x sl' (i + 1) (sl :: ρ')
theorem Upd.at {ns : List Str} {ρ ρ' : List Slot} {x : Str} {sl : Slot} {i : Nat} (h : Upd ns ρ x sl i ρ') : ns[i]? = some x ∧ ρ'[i]? = some sl ∧ ∀ j, j ≠ i → ρ'[j]? = ρ[j]? := by
  induction h with
  | here =>
    refine ⟨rfl, rfl, fun j hj => ?_⟩
    cases j with
    | zero => exact absurd rfl hj
    | succ j => rfl
  | there _ ih =>
    refine ⟨by simpa using ih.1, by simpa using ih.2.1, fun j hj => ?_⟩
    cases j with
    | zero => rfl
    | succ j => simpa using ih.2.2 j (by omega)

theorem nodup_idx {ns : List Str} (nd : ns.Nodup) {i j : Nat} {x : Str} (hi : ns[i]? = some x) (hj : ns[j]? = some x) : i = j := by
  obtain ⟨h1, e1⟩ := List.getElem?_eq_some_iff.mp hi
  obtain ⟨h2, e2⟩ := List.getElem?_eq_some_iff.mp hj
  exact (List.getElem_inj nd).mp (e1.trans e2.symm)

/-- reading a name -/
theorem load_at {m : Str → Option Value} {muts : Led} {oa : Nat → Addr} (hF : FxOK C A F) (h : FIn F ρ pin Z s m muts oa) {x : Str} {v : Value} (hx : x ∈ F.ns) (ha : At F.env m muts x v) {pos : Pos}
    {K : Value → Shared → Prop} {E : Value → Shared → Prop} (hK : K v s) : wpAny (model C.prog C.w) A (eval (.Name x pos) F.env) K E s := by
  have hd := (hF.kinds x hx).1
  rcases ha with ⟨h1, h2⟩ | ⟨h1, c, o, h2, h3, h4⟩
  · exact wpAny_Name (wpAny_loadName_local hF.hk h1 (hF.hl ▸ h.fr.ns) h2 hK) hd
  · exact wpAny_Name (wpAny_loadName_cell hF.hk h1 h2 ⟨o, (h.nw (c, o) (by simp [h3])).1, h4⟩ hK) hd

theorem mem_of_get {ns : List Str} {i : Nat} {x : Str} (h : ns[i]? = some x) : x ∈ ns := List.mem_of_getElem? h

theorem EvE.var (hF : FxOK C A F) {x : Str} {pos : Pos} {i : Nat} {d : PyData} (hv : Var F.ns ρ x i (.dat d)) : EvE C A (FS F ρ) F.env (.Name x pos) d := fun Z s K E hs hK => by
  obtain ⟨pin, m, muts, oa, h⟩ := hs
  obtain ⟨v, h1, h2⟩ := h.slots i x _ hv.at.1 hv.at.2
  exact load_at hF h (mem_of_get hv.at.1) h1 (hK v Z s .refl h2)

/-- an item of a list that the frame owns -/
theorem EvE.ownItem (hF : FxOK C A F) {x : Str} {np pos : Pos} {slice : PySem.Expr} {i : Nat} {ds : List PyData} {d' : PyData} {k : Int} {j : Nat} (hv : Var F.ns ρ x i (.own ds)) (h2 : EvE C A (FS F ρ) F.env slice (.int k))
    (hz : ds.length ≤ 2 ^ 40) (hj : seqIndex? k ds.length = some j) (hx : ds[j]? = some d')
    (hs : notSlice slice = true := by with_unfolding_all rfl) :
    EvE C A (FS F ρ) F.env (.Subscript (.Name x np) slice pos) d' := fun Z s K E hs' hK => by
  have hs₀ := hs'
  obtain ⟨pin, m, muts, oa, h⟩ := hs'
  obtain ⟨h1, o, vs, n, m1, m2, m3, m4, m5⟩ := h.slots i x _ hv.at.1 hv.at.2
  refine Subscript_ (load_at hF h (mem_of_get hv.at.1) h1 (h2 Z s _ E hs₀ fun v2 Z2 s2 x2 r2 => ?_))
  have ho : s2.heap.get? (oa i) = some o := x2.keep _ _ (h.nw (oa i, o) (by simp [m1])).1
  obtain ⟨t, rfl⟩ := r2.intAt
  obtain ⟨v, hw, rw⟩ := m5.get hx
  have l := m5.length
  exact list_item_raw ⟨o, ho, m2, n, m4⟩ (by omega) (by rw [l]; exact hj) hw (sub_plain hs _ _) (hK v Z2 s2 x2 (rw.mono x2.sub))
end
end Mine

namespace Mine
open PySem PySem.W PySem.Spec PySem.Calls PyProof.Rows

/-! ## Statements -/
inductive Out where
  | next (ρ : List Slot)
  | cont (ρ : List Slot)
  | brk (ρ : List Slot)
  | ret (d : PyData)

def OutAt (F : Fx) (pin : Led) : Out → Flow → Led → Shared → Prop
  | .next ρ, fl, Z, s => fl = .next ∧ FSt F ρ pin Z s
  | .cont ρ, fl, Z, s => fl = .cont ∧ FSt F ρ pin Z s
  | .brk ρ, fl, Z, s => fl = .brk ∧ FSt F ρ pin Z s
  | .ret d, fl, Z, s => ∃ v ρ, fl = .ret v ∧ Rp Z v d ∧ FSt F ρ pin Z s

section
variable (C : Cx) (A : Around) (F : Fx)
def ExS (ρ : List Slot) (ss : List PySem.Stmt) (Q : Out → Prop) : Prop :=
  ∀ pin Z s (K : Flow → Shared → Prop), FSt F ρ pin Z s → (∀ o fl Z' s', Q o → OutAt F pin o fl Z' s' → Fwd Z s Z' s' → K fl s') →
    wpAny (model C.prog C.w) A (execs ss F.env) K (fun _ _ => False) s
def Ex1 (ρ : List Slot) (st : PySem.Stmt) (Q : Out → Prop) : Prop :=
  ∀ pin Z s (K : Flow → Shared → Prop), FSt F ρ pin Z s → (∀ o fl Z' s', Q o → OutAt F pin o fl Z' s' → Fwd Z s Z' s' → K fl s') →
    wpAny (model C.prog C.w) A (exec st F.env) K (fun _ _ => False) s
/-- what is asked behind a statement: the rest goes on, or the flow leaves -/
def Then (rest : List PySem.Stmt) (Q : Out → Prop) : Out → Prop
  | .next ρ => ExS C A F ρ rest Q
  | .cont ρ => Q (.cont ρ)
  | .brk ρ => Q (.brk ρ)
  | .ret d => Q (.ret d)
/-- an assignment of the data d to a target -/
def Asg (ρ : List Slot) (t : PySem.Expr) (d : PyData) (ρ' : List Slot) : Prop :=
  ∀ pin Z s v (K : Unit → Shared → Prop), FSt F ρ pin Z s → Rp Z v d → (∀ Z' s', FSt F ρ' pin Z' s' → Fwd Z s Z' s' → K () s') →
    wpAny (model C.prog C.w) A (assign t F.env v) K (fun _ _ => False) s
end

theorem Then.next {C : Cx} {A : Around} {F : Fx} {rest : List PySem.Stmt} {Q : Out → Prop} {ρ : List Slot} (h : ExS C A F ρ rest Q) : Then C A F rest Q (.next ρ) := h
theorem Then.ret {C : Cx} {A : Around} {F : Fx} {rest : List PySem.Stmt} {Q : Out → Prop} {d : PyData} (h : Q (.ret d)) : Then C A F rest Q (.ret d) := h
theorem Then.cont {C : Cx} {A : Around} {F : Fx} {rest : List PySem.Stmt} {Q : Out → Prop} {ρ : List Slot} (h : Q (.cont ρ)) : Then C A F rest Q (.cont ρ) := h

/-- forgetting -/
inductive Sub : List Slot → List Slot → Prop
  | nil : Sub [] []
  | same {sl : Slot} {R ρ : List Slot} : Sub R ρ → Sub (sl :: R) (sl :: ρ)
  | drop {sl : Slot} {R ρ : List Slot} : Sub R ρ → Sub (.undef :: R) (sl :: ρ)
theorem Sub.at {R ρ : List Slot} (h : Sub R ρ) : ∀ (i : Nat) (sl : Slot), R[i]? = some sl → sl = .undef ∨ ρ[i]? = some sl := by
  induction h with
  | nil => intro i sl h; simp at h
  | same _ ih =>
    intro i sl h
    cases i with
    | zero => exact .inr h
    | succ i => simpa using ih i sl (by simpa using h)
  | drop _ ih =>
    intro i sl h
    cases i with
    | zero => simp at h; exact .inl h.symm
    | succ i => simpa using ih i sl (by simpa using h)
theorem Sub.eq {a b : Slot} {R ρ : List Slot} (e : a = b) (h : Sub R ρ) : Sub (a :: R) (b :: ρ) := e ▸ .same h
theorem Sub.refl : ∀ ρ : List Slot, Sub ρ ρ
  | [] => .nil
  | _ :: r => .same (Sub.refl r)

section
variable {C : Cx} {A : Around} {F : Fx} {ρ ρ' : List Slot} {pin Z : Led} {s : Shared}

theorem FSt.weaken (h : FSt F ρ pin Z s) {R : List Slot} (w : Sub R ρ) : FSt F R pin Z s := by
  obtain ⟨m, muts, oa, h⟩ := h
  refine ⟨m, muts, oa, h.fr, h.nw, h.d1, h.d2, fun i x sl hi hs => ?_, fun i j x y ds es hx hy hi hj => ?_, h.cells⟩
  · rcases w.at i sl hs with rfl | q
    · trivial
    · exact h.slots i x sl hi q
  · rcases w.at i _ hi with q | q
    · cases q
    · rcases w.at j _ hj with r | r
      · cases r
      · exact h.inj i j x y ds es hx hy q r

/-- an elder ledger's entries at one address are one -/
theorem FIn.uniq {m : Str → Option Value} {muts : Led} {oa : Nat → Addr} (h : FIn F ρ pin Z s m muts oa) {a : Addr} {o o' : Obj} (h1 : (a, o) ∈ muts) (h2 : (a, o') ∈ muts) : o = o' := by
  have e1 := (h.nw (a, o) (by simp [h1])).1
  have e2 := (h.nw (a, o') (by simp [h2])).1
  simp only at e1 e2
  rw [e1] at e2; exact Option.some.inj e2

def updL (l : Led) (a : Addr) (o : Obj) : Led := l.map fun p => if p.1 = a then (a, o) else p
theorem mem_updL_ne {l : Led} {a : Addr} {o : Obj} {p : Addr × Obj} (hp : p ∈ l) (hne : p.1 ≠ a) : p ∈ updL l a o := List.mem_map.mpr ⟨p, hp, by rw [if_neg hne]⟩
theorem mem_updL_self {l : Led} {a : Addr} {o o' : Obj} (hp : (a, o') ∈ l) : (a, o) ∈ updL l a o := List.mem_map.mpr ⟨_, hp, by rw [if_pos rfl]⟩
theorem of_mem_updL {l : Led} {a : Addr} {o : Obj} {p : Addr × Obj} (hp : p ∈ updL l a o) : (p = (a, o) ∧ ∃ o', (a, o') ∈ l) ∨ (p ∈ l ∧ p.1 ≠ a) := by
  obtain ⟨q, hq, e⟩ := List.mem_map.mp hp
  by_cases h : q.1 = a
  · rw [if_pos h] at e; exact .inl ⟨e.symm, q.2, by rw [← h]; exact hq⟩
  · rw [if_neg h] at e; subst e; exact .inr ⟨hq, h⟩

/-- storing into a name -/
theorem store_gen (hF : FxOK C A F) {m : Str → Option Value} {muts : Led} {oa : Nat → Addr} (h : FIn F ρ pin Z s m muts oa) {x : Str} {sl : Slot} {i : Nat} (hu : Upd F.ns ρ x sl i ρ') (v : Value) (oa' : Nat → Addr) (hoa : ∀ j, j ≠ i → oa' j = oa j)
    (hsl : ∀ m' muts', At F.env m' muts' x v → (∀ a o, (a, o) ∈ muts → (∀ w, o.data ≠ .cell w) → (a, o) ∈ muts') → SlotAt F.env m' muts' Z (oa' i) x sl)
    (hinj : ∀ ds, sl = .own ds → ∀ j y es, j ≠ i → F.ns[j]? = some y → ρ[j]? = some (.own es) → oa j ≠ oa' i)
    {K : Unit → Shared → Prop} {E : Value → Shared → Prop} (hK : ∀ s', FSt F ρ' pin Z s' → Fwd Z s Z s' → K () s') : wpAny (model C.prog C.w) A (storeName F.env x v) K E s := by
  obtain ⟨u1, u2, u3⟩ := hu.at
  have hinj' : ∀ j k y z ds es, F.ns[j]? = some y → F.ns[k]? = some z → ρ'[j]? = some (.own ds) → ρ'[k]? = some (.own es) → oa' j = oa' k → j = k := by
    intro j k y z ds es hy hz hj hk e
    by_cases h1 : j = i
    · by_cases h2 : k = i
      · rw [h1, h2]
      · subst h1
        rw [u2] at hj
        rw [u3 k h2] at hk
        rw [hoa k h2] at e
        exact absurd e.symm (hinj ds (Option.some.inj hj) k z es h2 hz hk)
    · by_cases h2 : k = i
      · subst h2
        rw [u2] at hk
        rw [u3 j h1] at hj
        rw [hoa j h1] at e
        exact absurd e (hinj es (Option.some.inj hk) j y ds h1 hy hj)
      · rw [u3 j h1] at hj
        rw [u3 k h2] at hk
        rw [hoa j h1, hoa k h2] at e
        exact h.inj j k y z ds es hy hz hj hk e
  have hne : ∀ j y, j ≠ i → F.ns[j]? = some y → y ≠ x := fun j y hj hy e => hj (nodup_idx hF.nd (e ▸ hy) u1)
  obtain ⟨hd, hk⟩ := hF.kinds x (mem_of_get u1)
  rcases hk with hk | ⟨hk, c, hc⟩
  · refine wpAny_storeName_local hk (hF.hl ▸ h.fr.ns) (fun h' hn hs => hK _ ⟨fun y => if y = x then some v else m y, muts, oa', ?_, ?_, h.d1, h.d2, fun j y sl' hj hs' => ?_, hinj', h.cells⟩ .at) (by rw [hF.hk]; rfl)
    · exact h.fr.set (hF.hl ▸ hn) (hF.hl ▸ hs)
    · exact h.nw.set (hF.hl ▸ hs)
    · by_cases hji : j = i
      · subst hji
        rw [u1] at hj; rw [u2] at hs'
        obtain rfl := Option.some.inj hj; obtain rfl := Option.some.inj hs'
        exact hsl _ _ (.inl ⟨hk, by simp⟩) fun a o hm _ => hm
      · rw [u3 j hji] at hs'
        have hy := hne j y hji hj
        have old := h.slots j y sl' hj hs'
        have at' : ∀ w, At F.env m muts y w → At F.env (fun z => if z = x then some v else m z) muts y w := fun w q => by
          rcases q with ⟨q1, q2⟩ | q
          · exact .inl ⟨q1, by simp only [if_neg hy]; exact q2⟩
          · exact .inr q
        cases sl' with
        | undef => trivial
        | dat d => obtain ⟨w, q1, q2⟩ := old; exact ⟨w, at' w q1, q2⟩
        | own ds => rw [hoa j hji]; obtain ⟨q1, q2⟩ := old; exact ⟨at' _ q1, q2⟩
  · obtain ⟨o, v₀, hm, hdt⟩ := h.cells x c hc
    have hN := h.nw (c, o) (by simp [hm])
    refine wpAny_storeName_cell hF.hk hk hc ⟨o, hN.1, hdt⟩ fun h' hv hs => ?_
    obtain ⟨o', ho', hd'⟩ := hv
    have hcL : c ≠ F.L := hN.2.1
    refine hK _ ⟨m, updL muts c o', oa', ?_, ?_, ?_, h.d2, fun j y sl' hj hs' => ?_, hinj', fun y c' hy => ?_⟩ (.at (tk := s.toks))
    · refine ⟨h.fr.ns.sameBut hs (Ne.symm hcL), fun b ob e => (hs.2 b fun q => ?_).trans (h.fr.keep b ob e), h.fr.above⟩
      rw [q, hN.2.2] at e; cases e
    · intro p hp
      rcases List.mem_append.mp hp with hp | hp
      · have q := h.nw p (List.mem_append_left _ hp)
        exact ⟨(hs.2 p.1 fun e => h.d1 (c, o) hm p (List.mem_append_left _ hp) e.symm).trans q.1, q.2⟩
      · rcases List.mem_append.mp hp with hp | hp
        · rcases of_mem_updL hp with ⟨rfl, _⟩ | ⟨hp, hne'⟩
          · exact ⟨ho', hN.2⟩
          · have q := h.nw p (by simp [hp])
            exact ⟨(hs.2 p.1 hne').trans q.1, q.2⟩
        · have q := h.nw p (by simp [hp])
          exact ⟨(hs.2 p.1 fun e => h.d1 (c, o) hm p (List.mem_append_right _ hp) e.symm).trans q.1, q.2⟩
    · intro p hp q hq
      rcases of_mem_updL hp with ⟨rfl, _⟩ | ⟨hp, _⟩
      · exact h.d1 (c, o) hm q hq
      · exact h.d1 p hp q hq
    · by_cases hji : j = i
      · subst hji
        rw [u1] at hj; rw [u2] at hs'
        obtain rfl := Option.some.inj hj; obtain rfl := Option.some.inj hs'
        refine hsl _ _ (.inr ⟨hk, c, o', hc, mem_updL_self hm, hd'⟩) fun a ob ha hw => mem_updL_ne ha fun e => ?_
        simp only at e; subst e
        exact hw v₀ (h.uniq ha hm ▸ hdt)
      · rw [u3 j hji] at hs'
        have hy := hne j y hji hj
        have old := h.slots j y sl' hj hs'
        have at' : ∀ w, At F.env m muts y w → At F.env m (updL muts c o') y w := fun w q => by
          rcases q with q | ⟨q1, c', ob, q2, q3, q4⟩
          · exact .inl q
          · exact .inr ⟨q1, c', ob, q2, mem_updL_ne q3 fun e => hy (hF.cinj y x c (e ▸ q2) hc), q4⟩
        cases sl' with
        | undef => trivial
        | dat d => obtain ⟨w, q1, q2⟩ := old; exact ⟨w, at' w q1, q2⟩
        | own ds =>
          rw [hoa j hji]
          obtain ⟨q1, ob, vs, n, r1, r2, r3, r4, r5⟩ := old
          refine ⟨at' _ q1, ob, vs, n, mem_updL_ne r1 fun e => ?_, r2, r3, r4, r5⟩
          simp only at e
          have := h.uniq (e ▸ r1) hm
          rw [this, hdt] at r4; cases r4
    · by_cases hcc : c' = c
      · subst hcc; exact ⟨o', _, mem_updL_self hm, hd'⟩
      · obtain ⟨ob, w, q1, q2⟩ := h.cells y c' hy
        exact ⟨ob, w, mem_updL_ne q1 hcc, q2⟩

theorem store_dat (hF : FxOK C A F) (h : FSt F ρ pin Z s) {x : Str} {d : PyData} {i : Nat} (hu : Upd F.ns ρ x (.dat d) i ρ') {v : Value} (r : Rp Z v d)
    {K : Unit → Shared → Prop} {E : Value → Shared → Prop} (hK : ∀ s', FSt F ρ' pin Z s' → Fwd Z s Z s' → K () s') : wpAny (model C.prog C.w) A (storeName F.env x v) K E s := by
  obtain ⟨m, muts, oa, h⟩ := h
  exact store_gen hF h hu v oa (fun _ _ => rfl) (fun _ _ ha _ => ⟨v, ha, r⟩) (fun ds e => nomatch e) hK

/-! ### the rules -/
theorem ExS.nil {Q : Out → Prop} (hq : Q (.next ρ)) : ExS C A F ρ [] Q := fun pin Z s K hs hK => wpAny_execs_nil (hK _ _ Z s hq ⟨rfl, hs⟩ .refl)
theorem ExS.cons {st : PySem.Stmt} {rest : List PySem.Stmt} {Q : Out → Prop} (h : Ex1 C A F ρ st (Then C A F rest Q)) : ExS C A F ρ (st :: rest) Q := fun pin Z s K hs hK => by
  refine wpAny_execs_cons (h pin Z s _ hs fun o fl Z' s' hq ho hz => ?_)
  cases o with
  | next ρ' =>
    obtain ⟨rfl, hs'⟩ := ho
    exact hq pin Z' s' K hs' fun o fl Z'' s'' q1 q2 q3 => hK o fl Z'' s'' q1 q2 (hz.trans q3)
  | cont ρ' => obtain ⟨rfl, hs'⟩ := ho; exact hK _ _ Z' s' hq ⟨rfl, hs'⟩ hz
  | brk ρ' => obtain ⟨rfl, hs'⟩ := ho; exact hK _ _ Z' s' hq ⟨rfl, hs'⟩ hz
  | ret d => obtain ⟨v, ρ', rfl, r, hs'⟩ := ho; exact hK _ _ Z' s' hq ⟨v, ρ', rfl, r, hs'⟩ hz
theorem ExS.mono {ss : List PySem.Stmt} {Q Q' : Out → Prop} (h : ExS C A F ρ ss Q) (hq : ∀ o, Q o → Q' o) : ExS C A F ρ ss Q' := fun pin Z s K hs hK =>
  h pin Z s K hs fun o fl Z' s' q => hK o fl Z' s' (hq o q)
theorem ExS.weaken {ss : List PySem.Stmt} {Q : Out → Prop} {R : List Slot} (w : Sub R ρ) (h : ExS C A F R ss Q) : ExS C A F ρ ss Q := fun pin Z s K hs hK => h pin Z s K (hs.weaken w) hK

theorem Ex1.assign (hF : FxOK C A F) {x : Str} {px pos : Pos} {e : PySem.Expr} {d : PyData} {i : Nat} {Q : Out → Prop} (he : EvE C A (FS F ρ) F.env e d) (hu : Upd F.ns ρ x (.dat d) i ρ') (hq : Q (.next ρ'))
    (hs : swapsWith e (some (.Name x px)) pos.line F.env = pure false := by rfl) : Ex1 C A F ρ (.Assign [.Name x px] e pos) Q := fun pin Z s K hst hK =>
  wpAny_Assign_Name (he Z s _ _ ⟨pin, hst⟩ fun v Z' s' x r => store_dat hF (hst.ext x) hu r fun s'' h'' w => hK _ _ Z' s'' hq ⟨rfl, h''⟩ (x.fwd.trans w)) hs

theorem Ex1.ret {e : PySem.Expr} {pos : Pos} {d : PyData} {Q : Out → Prop} (he : EvE C A (FS F ρ) F.env e d) (hq : Q (.ret d)) : Ex1 C A F ρ (.Return (some e) pos) Q := fun pin Z s K hst hK =>
  wpAny_Return_some (he Z s _ _ ⟨pin, hst⟩ fun v Z' s' x r => hK _ _ Z' s' hq ⟨v, ρ, rfl, r, hst.ext x⟩ x.fwd)

theorem Ex1.ite {test : PySem.Expr} {body orelse : List PySem.Stmt} {pos : Pos} {b : Bool} {Q : Out → Prop} (hb : EvB C A (FS F ρ) F.env test b) (ht : b = true → ExS C A F ρ body Q) (hf : b = false → ExS C A F ρ orelse Q) :
    Ex1 C A F ρ (.If test body orelse pos) Q := fun pin Z s K hst hK => by
  refine wpAny_If (hb Z s _ _ ⟨pin, hst⟩ fun Z' s' x => ?_)
  have go : ∀ o fl Z'' s'', Q o → OutAt F pin o fl Z'' s'' → Fwd Z' s' Z'' s'' → K fl s'' := fun o fl Z'' s'' q1 q2 q3 => hK o fl Z'' s'' q1 q2 (x.fwd.trans q3)
  cases b with
  | true => exact ht rfl pin Z' s' K (hst.ext x) go
  | false => exact hf rfl pin Z' s' K (hst.ext x) go

theorem Ex1.continue_ {pos : Pos} {Q : Out → Prop} (hq : Q (.cont ρ)) : Ex1 C A F ρ (.Continue pos) Q := fun pin Z s K hst hK => by
  rw [arm_exec_Continue]
  exact wpAny_bind (wpAny_standAt (wpAny_pure (hK _ _ Z s hq ⟨rfl, hst⟩ .refl)))

/-- an expression for its effect (none) -/
theorem Ex1.expr {e : PySem.Expr} {pos : Pos} {d : PyData} {Q : Out → Prop} (he : EvE C A (FS F ρ) F.env e d) (hq : Q (.next ρ))
    (hi : interactive F.env = false := by rfl) (hs : swapsWith e none pos.line F.env = pure false := by rfl) : Ex1 C A F ρ (.Expr e pos) Q := fun pin Z s K hst hK =>
  wpAny_Expr_any (he Z s _ _ ⟨pin, hst⟩ fun v Z' s' x _ => hK _ _ Z' s' hq ⟨rfl, hst.ext x⟩ x.fwd) hi hs

/-! ### targets -/
theorem Asg.name (hF : FxOK C A F) {x : Str} {px : Pos} {d : PyData} {i : Nat} (hu : Upd F.ns ρ x (.dat d) i ρ') : Asg C A F ρ (.Name x px) d ρ' := fun pin Z s v K hst r hK =>
  wpAny_assign_Name (store_dat hF hst hu r fun s' h' w => hK Z s' h' w)
inductive AsgL (ns : List Str) : List Slot → List PySem.Expr → List PyData → List Slot → Prop
  | nil {ρ : List Slot} : AsgL ns ρ [] [] ρ
  | cons {ρ ρ₁ ρ' : List Slot} {x : Str} {px : Pos} {d : PyData} {i : Nat} {ts : List PySem.Expr} {ds : List PyData} : Upd ns ρ x (.dat d) i ρ₁ → AsgL ns ρ₁ ts ds ρ' → AsgL ns ρ (.Name x px :: ts) (d :: ds) ρ'
theorem AsgL.shape {ns : List Str} {ts : List PySem.Expr} {ds : List PyData} (h : AsgL ns ρ ts ds ρ') (env : Env) : (assignEach ts env).length = ds.length ∧ (assignEach ts env).findIdx? (·.1) = none := by
  induction h with
  | nil => exact ⟨rfl, rfl⟩
  | cons _ _ ih =>
    refine ⟨?_, ?_⟩
    · show (assignEach _ env).length + 1 = _
      rw [ih.1]; rfl
    · show ((false, _) :: assignEach _ env).findIdx? (·.1) = none
      rw [List.findIdx?_cons, ih.2]; rfl
theorem AsgL.ok (hF : FxOK C A F) {ts : List PySem.Expr} {ds : List PyData} (h : AsgL F.ns ρ ts ds ρ') : ∀ {pin Z : Led} {s : Shared} {vs : List Value} {K : Unit → Shared → Prop} {E : Value → Shared → Prop}, FSt F ρ pin Z s → Rps Z vs ds →
    (∀ s', FSt F ρ' pin Z s' → Fwd Z s Z s' → K () s') → wpAny (model C.prog C.w) A (assignInOrder ((assignEach ts F.env).map (·.2)) vs) K E s := by
  induction h with
  | nil =>
    intro pin Z s vs K E hst r hK
    cases r
    exact wpAny_pure (hK s hst .refl)
  | cons hu _ ih =>
    intro pin Z s vs K E hst r hK
    cases r with
    | cons r1 r2 =>
      show wpAny _ A (do holding _ (assign (.Name _ _) F.env _); assignInOrder _ _) K E s
      exact wpAny_bind (wpAny_holding (wpAny_assign_Name (store_dat hF hst hu r1 fun s' h' w => ih h' r2 fun s'' h'' w' => hK s'' h'' (w.trans w'))))
theorem Asg.tuple (hF : FxOK C A F) (hh : A.handled = none) {ts : List PySem.Expr} {ds : List PyData} {k : Nat} {pos : Pos} (h : AsgL F.ns ρ ts ds ρ') : Asg C A F ρ (.Tuple ts k pos) (.tuple ds) ρ' := fun pin Z s v K hst r hK => by
  have H : HasL s.heap Z := by obtain ⟨_, _, _, q⟩ := hst; exact q.has
  obtain ⟨a, vs, rfl, ht, q⟩ := r.tupleAt H
  have l := q.length
  refine wpAny_assign_Tuple hh ht (by rw [(h.shape F.env).1, List.size_toArray, l]) (h.shape F.env).2 fun h' hx => ?_
  have x : Ext Z s Z { s with heap := h', toks := s.toks } := .grow fun b o e => hx b o (Nat.ne_of_lt (Heap.lt_size e)) e
  exact h.ok hF (hst.ext x) q fun s' h'' w => hK Z s' h'' (x.fwd.trans w)

theorem Ex1.unpack (hF : FxOK C A F) (hh : A.handled = none) {ts : List PySem.Expr} {k : Nat} {tp pos : Pos} {e : PySem.Expr} {ds : List PyData} {Q : Out → Prop} (he : EvE C A (FS F ρ) F.env e (.tuple ds)) (hu : AsgL F.ns ρ ts ds ρ') (hq : Q (.next ρ'))
    (hs : swapsWithSole [.Tuple ts k tp] e pos.line F.env = pure false := by rfl) (hw : swappedStores [.Tuple ts k tp] e F.env = pure none := by rfl) : Ex1 C A F ρ (.Assign [.Tuple ts k tp] e pos) Q := fun pin Z s K hst hK =>
  PyProof.Rows.Assign_Tuple (he Z s _ _ ⟨pin, hst⟩ fun v Z' s' x r => (Asg.tuple hF hh hu) pin Z' s' v _ (hst.ext x) r fun Z'' s'' h'' hz => hK _ _ Z'' s'' hq ⟨rfl, h''⟩ (x.fwd.trans hz)) hs hw

/-! ### owned lists -/
/-- a list display that the frame keeps as its own -/
theorem Ex1.assignOwn (hF : FxOK C A F) {x : Str} {px pos lp : Pos} {es : List PySem.Expr} {ds : List PyData} {i : Nat} {Q : Out → Prop} (he : EvEs C A (FS F ρ) F.env es ds) (hu : Upd F.ns ρ x (.own ds) i ρ') (hq : Q (.next ρ')) (hz : ds.length ≤ 2 ^ 20 := by decide)
    (hs : swapsWith (.List es lp) (some (.Name x px)) pos.line F.env = pure false := by rfl) : Ex1 C A F ρ (.Assign [.Name x px] (.List es lp) pos) Q := fun pin Z s K hst hK => by
  refine wpAny_Assign_Name (List_ (he lp Z s _ _ ⟨pin, hst⟩ fun vs Z' s' y r => wpAny_newList ?_ (by rw [r.length, sizeLine_eq]; omega))) hs
  obtain ⟨m, muts, oa, h⟩ := hst.ext y
  have fresh := fresh_get s'.heap
  obtain ⟨oL, _, _, hL, _⟩ := id h.fr.ns
  have h2 : FIn F ρ pin Z' { s' with heap := s'.heap.push { cls := .type "list", data := .seq vs.toArray } } m ((s'.heap.objs.size, { cls := .type "list", data := .seq vs.toArray }) :: muts) oa := by
    refine ⟨h.fr.push _, fun p hp => ?_, fun p hp q hq' => ?_, h.d2, fun j y' sl hj hs' => ?_, h.inj, fun y' c hc => ?_⟩
    · rcases List.mem_append.mp hp with hp | hp
      · have q := h.nw p (List.mem_append_left _ hp); exact ⟨Heap.get?_push_of_some _ q.1, q.2⟩
      · rcases List.mem_append.mp hp with hp | hp
        · rcases List.mem_cons.mp hp with rfl | hp
          · exact ⟨Heap.get?_push_size _ rfl, (fun e => by simp only at e; rw [e, hL] at fresh; cases fresh), none_of_keep h.fr.keep fresh⟩
          · have q := h.nw p (by simp [hp]); exact ⟨Heap.get?_push_of_some _ q.1, q.2⟩
        · have q := h.nw p (by simp [hp]); exact ⟨Heap.get?_push_of_some _ q.1, q.2⟩
    · rcases List.mem_cons.mp hp with rfl | hp
      · intro e
        simp only at e
        have : s'.heap.get? q.1 = some q.2 := by
          rcases List.mem_append.mp hq' with r | r
          · exact (h.nw q (List.mem_append_left _ r)).1
          · exact (h.nw q (by simp [r])).1
        rw [← e, fresh] at this; cases this
      · exact h.d1 p hp q hq'
    · have old := h.slots j y' sl hj hs'
      cases sl with
      | undef => trivial
      | dat d => obtain ⟨w, q1, q2⟩ := old; exact ⟨w, q1.mono fun c o _ hm _ => .tail _ hm, q2⟩
      | own ds => obtain ⟨q1, ob, vs, n, r1, r2⟩ := old; exact ⟨q1.mono fun c o _ hm _ => .tail _ hm, ob, vs, n, .tail _ r1, r2⟩
    · obtain ⟨o, v, q1, q2⟩ := h.cells y' c hc; exact ⟨o, v, .tail _ q1, q2⟩
  refine store_gen hF h2 hu (.ref s'.heap.objs.size) (fun j => if j = i then s'.heap.objs.size else oa j) (fun j hj => by simp [hj]) (fun m' muts' ha hk => ?_) (fun ds' _ j y' es hj hy' hes e => ?_) fun s'' h'' w => hK _ _ Z' s'' hq ⟨rfl, h''⟩ (y.fwd.trans (.trans (.at (tk := s'.toks)) w))
  · simp only [if_true]
    exact ⟨ha, _, vs, 0, hk _ _ (.head _) (fun w => by simp), rfl, rfl, rfl, r⟩
  · simp only [if_true] at e
    obtain ⟨_, ob, vs', n, r1, _⟩ := h.slots j y' _ hy' hes
    have := (h.nw (oa j, ob) (by simp [r1])).1
    simp only at this
    rw [e, fresh] at this; cases this

/-- the frame's own list gains an item -/
theorem Ex1.append (hF : FxOK C A F) {x : Str} {np apos cpos pos : Pos} {e : PySem.Expr} {d : PyData} {ds : List PyData} {i i' : Nat} {Q : Out → Prop} (hv : Var F.ns ρ x i (.own ds)) (he : EvE C A (FS F ρ) F.env e d) (hu : Upd F.ns ρ x (.own (ds ++ [d])) i' ρ')
    (hq : Q (.next ρ')) (hz : ds.length ≤ 2 ^ 20)
    (hi : interactive F.env = false := by rfl) (hs : swapsWith (.Call (.Attribute (.Name x np) "append" apos) [e] [] cpos) none pos.line F.env = pure false := by rfl)
    (hbase : attributeBase (.Name x np) "append" F.env (eval (.Name x np) F.env) = eval (.Name x np) F.env := by rfl)
    (hfew : ((backTo cpos (starEach [e] F.env)).all (fun x => !x.1) && (backToKw cpos (keywordEach [] F.env)).all (fun x => x.1.isSome)
      && decide (([e] : List PySem.Expr).length + ([] : List Keyword).length + (if ([] : List Keyword).isEmpty then 0 else 1) < 30)) = true := by rfl)
    (hline : (apos.endLine == cpos.line) = true := by rfl) (htrees : backTo cpos (starEach [e] F.env) = [(false, eval e F.env)] := by rfl) :
    Ex1 C A F ρ (.Expr (.Call (.Attribute (.Name x np) "append" apos) [e] [] cpos) pos) Q := fun pin Z s K hst hK => by
  have hst₀ := hst
  obtain ⟨m, muts, oa, h⟩ := hst
  obtain ⟨h1, o, vs, n, m1, m2, m3, m4, m5⟩ := h.slots i x _ hv.at.1 hv.at.2
  obtain rfl : i = i' := nodup_idx hF.nd hv.at.1 hu.at.1
  refine wpAny_Expr_any (wpAny_Call_append hbase hfew hline htrees (load_at hF h (mem_of_get hv.at.1) h1 ⟨oa i, vs.toArray, rfl, ⟨o, n, (h.nw (oa i, o) (by simp [m1])).1, m2, m3, m4⟩, he Z s _ _ ⟨pin, hst₀⟩ fun v Z' s' y r => ?_⟩)) hi hs
  have h' := h.ext y
  have ho := (h'.nw (oa i, o) (by simp [m1]))
  have l := m5.length
  refine list_append_plainL (its := vs.toArray) ⟨o, n, ho.1, m2, m3, m4⟩ (fun hp hpl hsb => ?_) (by rw [List.size_toArray, l, sizeLine_eq]; omega)
  obtain ⟨o', n', ho', c', d', dt'⟩ := hpl
  obtain ⟨u1, u2, u3⟩ := hu.at
  have hL : oa i ≠ F.L := ho.2.1
  refine hK _ _ Z' _ hq ⟨rfl, m, updL muts (oa i) o', oa, ?_, ?_, ?_, h'.d2, fun j y' sl hj hs' => ?_, ?_, fun y' c hc => ?_⟩ (y.fwd.trans (.at (tk := s'.toks)))
  · refine ⟨h'.fr.ns.sameBut hsb (Ne.symm hL), fun b ob e => (hsb.2 b fun q => ?_).trans (h'.fr.keep b ob e), h'.fr.above⟩
    rw [q, ho.2.2] at e; cases e
  · intro p hp'
    rcases List.mem_append.mp hp' with hp' | hp'
    · have q := h'.nw p (List.mem_append_left _ hp')
      exact ⟨(hsb.2 p.1 fun e => h'.d1 (oa i, o) m1 p (List.mem_append_left _ hp') e.symm).trans q.1, q.2⟩
    · rcases List.mem_append.mp hp' with hp' | hp'
      · rcases of_mem_updL hp' with ⟨rfl, _⟩ | ⟨hp', hne'⟩
        · exact ⟨ho', ho.2⟩
        · have q := h'.nw p (by simp [hp'])
          exact ⟨(hsb.2 p.1 hne').trans q.1, q.2⟩
      · have q := h'.nw p (by simp [hp'])
        exact ⟨(hsb.2 p.1 fun e => h'.d1 (oa i, o) m1 p (List.mem_append_right _ hp') e.symm).trans q.1, q.2⟩
  · intro p hp' q hq'
    rcases of_mem_updL hp' with ⟨rfl, _⟩ | ⟨hp', _⟩
    · exact h'.d1 (oa i, o) m1 q hq'
    · exact h'.d1 p hp' q hq'
  · have at' : ∀ z w, At F.env m muts z w → At F.env m (updL muts (oa i) o') z w := fun z w q => q.mono fun c ob w' hm hd => mem_updL_ne hm fun e => by
      simp only at e
      have := h'.uniq (e ▸ hm) m1
      rw [this, m4] at hd; cases hd
    by_cases hji : j = i
    · subst hji
      rw [u1] at hj; rw [u2] at hs'
      obtain rfl := Option.some.inj hj; obtain rfl := Option.some.inj hs'
      refine ⟨at' _ _ h1, o', vs ++ [v], n', mem_updL_self m1, c', d', ?_, ?_⟩
      · rw [dt']; simp
      · exact (m5.mono y.sub).append (.one r)
    · rw [u3 j hji] at hs'
      have old := h'.slots j y' sl hj hs'
      cases sl with
      | undef => trivial
      | dat d => obtain ⟨w, q1, q2⟩ := old; exact ⟨w, at' _ _ q1, q2⟩
      | own es =>
        obtain ⟨q1, ob, ws, k, r1, r2⟩ := old
        exact ⟨at' _ _ q1, ob, ws, k, mem_updL_ne r1 fun e => hji (h'.inj j i y' x es ds hj u1 hs' hv.at.2 e), r2⟩
  · intro j k y' z es fs hy hz' hj hk e
    have old : ∀ (j : Nat) (es : List PyData), ρ'[j]? = some (Slot.own es) → ∃ es, ρ[j]? = some (Slot.own es) := fun j es hj => by
      by_cases hji : j = i
      · subst hji; exact ⟨ds, hv.at.2⟩
      · rw [u3 j hji] at hj; exact ⟨es, hj⟩
    obtain ⟨es1, q1⟩ := old j es hj
    obtain ⟨es2, q2⟩ := old k fs hk
    exact h'.inj j k y' z es1 es2 hy hz' q1 q2 e
  · by_cases hcc : c = oa i
    · obtain ⟨ob, w, q1, q2⟩ := h'.cells y' c hc
      subst hcc
      have := h'.uniq q1 m1
      rw [this, m4] at q2; cases q2
    · obtain ⟨ob, w, q1, q2⟩ := h'.cells y' c hc
      exact ⟨ob, w, mem_updL_ne q1 hcc, q2⟩

/-- an owned list becomes data -/
theorem FSt.freeze (hF : FxOK C A F) (h : FSt F ρ pin Z s) {x : Str} {ds : List PyData} {i i' : Nat} (hv : Var F.ns ρ x i (.own ds)) (hu : Upd F.ns ρ x (.dat (.list ds)) i' ρ') : ∃ Z', (∀ p ∈ Z, p ∈ Z') ∧ FSt F ρ' pin Z' s := by
  obtain ⟨m, muts, oa, h⟩ := h
  obtain ⟨h1, o, vs, n, m1, m2, m3, m4, m5⟩ := h.slots i x _ hv.at.1 hv.at.2
  obtain rfl : i = i' := nodup_idx hF.nd hv.at.1 hu.at.1
  obtain ⟨u1, u2, u3⟩ := hu.at
  refine ⟨(oa i, o) :: Z, fun p hp => .tail _ hp, m, muts.filter (fun p => p.1 ≠ oa i), oa, h.fr, fun p hp => ?_, fun p hp q hq => ?_, fun p hp q hq => ?_, fun j y sl hj hs' => ?_, ?_, fun y c hc => ?_⟩
  · rcases List.mem_append.mp hp with hp | hp
    · exact h.nw p (by simp [hp])
    · rcases List.mem_append.mp hp with hp | hp
      · exact h.nw p (by simp [(List.mem_filter.mp hp).1])
      · rcases List.mem_cons.mp hp with rfl | hp
        · exact h.nw _ (by simp [m1])
        · exact h.nw p (by simp [hp])
  · obtain ⟨hp1, hp2⟩ := List.mem_filter.mp hp
    rcases List.mem_append.mp hq with hq | hq
    · exact h.d1 p hp1 q (by simp [hq])
    · rcases List.mem_cons.mp hq with rfl | hq
      · simpa using hp2
      · exact h.d1 p hp1 q (by simp [hq])
  · rcases List.mem_cons.mp hq with rfl | hq
    · exact fun e => h.d1 (oa i, o) m1 p (by simp [hp]) e.symm
    · exact h.d2 p hp q hq
  · have at' : ∀ z w, At F.env m muts z w → At F.env m (muts.filter (fun p => p.1 ≠ oa i)) z w := fun z w q => q.mono fun c ob w' hm hd => List.mem_filter.mpr ⟨hm, by
      simp only [ne_eq, decide_eq_true_eq]
      intro e
      have := h.uniq (e ▸ hm) m1
      rw [this, m4] at hd; cases hd⟩
    by_cases hji : j = i
    · subst hji
      rw [u1] at hj; rw [u2] at hs'
      obtain rfl := Option.some.inj hj; obtain rfl := Option.some.inj hs'
      exact ⟨_, at' _ _ h1, .list (.head _) m2 m4 (m5.mono fun p hp => .tail _ hp)⟩
    · rw [u3 j hji] at hs'
      have old := h.slots j y sl hj hs'
      cases sl with
      | undef => trivial
      | dat d => obtain ⟨w, q1, q2⟩ := old; exact ⟨w, at' _ _ q1, q2.mono fun p hp => .tail _ hp⟩
      | own es =>
        obtain ⟨q1, ob, ws, k, r1, r2, r3, r4, r5⟩ := old
        exact ⟨at' _ _ q1, ob, ws, k, List.mem_filter.mpr ⟨r1, by simpa using fun e => hji (h.inj j i y x es ds hj u1 hs' hv.at.2 e)⟩, r2, r3, r4, r5.mono fun p hp => .tail _ hp⟩
  · intro j k y z es fs hy hz' hj hk e
    have ne : ∀ (j : Nat) (es : List PyData), ρ'[j]? = some (Slot.own es) → j ≠ i := fun j es hj q => by subst q; rw [u2] at hj; cases hj
    rw [u3 j (ne j es hj)] at hj
    rw [u3 k (ne k fs hk)] at hk
    exact h.inj j k y z es fs hy hz' hj hk e
  · obtain ⟨ob, w, q1, q2⟩ := h.cells y c hc
    refine ⟨ob, w, List.mem_filter.mpr ⟨q1, ?_⟩, q2⟩
    simp only [ne_eq, decide_eq_true_eq]
    intro e
    have := h.uniq (e ▸ q1) m1
    rw [this, m4] at q2; cases q2
theorem ExS.freeze (hF : FxOK C A F) {x : Str} {ds : List PyData} {i i' : Nat} {ss : List PySem.Stmt} {Q : Out → Prop} (hv : Var F.ns ρ x i (.own ds)) (hu : Upd F.ns ρ x (.dat (.list ds)) i' ρ') (h : ExS C A F ρ' ss Q) : ExS C A F ρ ss Q := fun pin Z s K hst hK => by
  obtain ⟨Z', hz, h'⟩ := hst.freeze hF hv hu
  exact h pin Z' s K h' fun o fl Z'' s'' q1 q2 q3 => hK o fl Z'' s'' q1 q2 (.trans (.led hz) q3)
end
end Mine

namespace Mine
open PySem PySem.W PySem.Spec PySem.Calls PyProof.Rows

/-- what a turn must leave -/
def LoopQ (R : List Slot) (Q : Out → Prop) : Out → Prop
  | .next ρ => Sub R ρ
  | .cont ρ => Sub R ρ
  | .brk ρ => Q (.next ρ)
  | .ret d => Q (.ret d)

theorem LoopQ.next {R ρ : List Slot} {Q : Out → Prop} (h : Sub R ρ) : LoopQ R Q (.next ρ) := h
theorem LoopQ.cont {R ρ : List Slot} {Q : Out → Prop} (h : Sub R ρ) : LoopQ R Q (.cont ρ) := h
theorem LoopQ.ret {R : List Slot} {d : PyData} {Q : Out → Prop} (h : Q (.ret d)) : LoopQ R Q (.ret d) := h

section
variable {C : Cx} {A : Around} {F : Fx} {ρ ρ' : List Slot} {pin Z : Led} {s : Shared}

/-- pins that moved (an iterator's own objects); all else stood; the ledger gained new objects -/
theorem FSt.moved {ws ws' : Led} {Z' : Led} {s' : Shared} (h : FSt F ρ (ws ++ pin) Z s)
    (hk : ∀ b o, b ∉ ws.map (·.1) → s.heap.get? b = some o → s'.heap.get? b = some o) (hw : ∀ p ∈ ws', s'.heap.get? p.1 = some p.2 ∧ p.1 ∈ ws.map (·.1))
    (hd : ∀ p ∈ pin ++ Z, p.1 ∉ ws.map (·.1)) (sub : ∀ p ∈ Z, p ∈ Z') (hnew : ∀ p ∈ Z', p ∈ Z ∨ (s.heap.get? p.1 = none ∧ s'.heap.get? p.1 = some p.2)) : FSt F ρ (ws' ++ pin) Z' s' := by
  obtain ⟨m, muts, oa, h⟩ := h
  have wsN : ∀ b, b ∈ ws.map (·.1) → (∃ o, s.heap.get? b = some o) ∧ b ≠ F.L ∧ F.h₀.get? b = none := fun b hb => by
    obtain ⟨p, hp, rfl⟩ := List.mem_map.mp hb
    have := h.nw p (by simp [hp])
    exact ⟨⟨p.2, this.1⟩, this.2⟩
  have hL : F.L ∉ ws.map (·.1) := fun q => (wsN _ q).2.1 rfl
  have muts_off : ∀ p ∈ muts, p.1 ∉ ws.map (·.1) := fun p hp q => by
    obtain ⟨r, hr, e⟩ := List.mem_map.mp q
    exact h.d1 p hp r (by simp [hr]) e.symm
  refine ⟨m, muts, oa, ⟨?_, fun b o e => hk b o (fun q => ?_) (h.fr.keep b o e), h.fr.above⟩, fun p hp => ?_, fun p hp q hq => ?_, fun p hp q hq => ?_, fun i x sl hi hs => (h.slots i x sl hi hs).ext sub, h.inj, h.cells⟩
  · exact h.fr.ns.at' fun o e => hk _ o hL e
  · rw [(wsN b q).2.2] at e; cases e
  · rcases List.mem_append.mp hp with hp | hp
    · rcases List.mem_append.mp hp with hp | hp
      · have q := hw p hp
        exact ⟨q.1, (wsN _ q.2).2⟩
      · have q := h.nw p (by simp [hp])
        exact ⟨hk _ _ (hd p (by simp [hp])) q.1, q.2⟩
    · rcases List.mem_append.mp hp with hp | hp
      · have q := h.nw p (by simp [hp])
        exact ⟨hk _ _ (muts_off p hp) q.1, q.2⟩
      · rcases hnew p hp with q | ⟨q1, q2⟩
        · have r := h.nw p (by simp [q])
          exact ⟨hk _ _ (hd p (by simp [q])) r.1, r.2⟩
        · refine ⟨q2, fun e => ?_, none_of_keep h.fr.keep q1⟩
          obtain ⟨oL, _, _, hL', _⟩ := h.fr.ns
          rw [e, hL'] at q1; cases q1
  · rcases List.mem_append.mp hq with hq | hq
    · rcases List.mem_append.mp hq with hq | hq
      · intro e
        exact muts_off p hp (e ▸ (hw q hq).2)
      · exact h.d1 p hp q (by simp [hq])
    · rcases hnew q hq with r | ⟨r1, r2⟩
      · exact h.d1 p hp q (by simp [r])
      · intro e
        have := (h.nw p (by simp [hp])).1
        rw [e, r1] at this; cases this
  · rcases List.mem_append.mp hp with hp | hp
    · have w := (hw p hp).2
      rcases hnew q hq with r | ⟨r1, r2⟩
      · exact fun e => hd q (by simp [r]) (e ▸ w)
      · intro e
        obtain ⟨o, ho⟩ := (wsN _ w).1
        rw [e, r1] at ho; cases ho
    · rcases hnew q hq with r | ⟨r1, r2⟩
      · exact h.d2 p (by simp [hp]) q r
      · intro e
        have := (h.nw p (by simp [hp])).1
        rw [e, r1] at this; cases this

/-- a new object becomes a pin -/
theorem FSt.pinNew {a : Addr} {o : Obj} {s' : Shared} (h : FSt F ρ pin Z s) (hk : ∀ b o, s.heap.get? b = some o → s'.heap.get? b = some o) (hn : s.heap.get? a = none) (ho : s'.heap.get? a = some o) :
    FSt F ρ ((a, o) :: pin) Z s' := by
  obtain ⟨m, muts, oa, h⟩ := h
  refine ⟨m, muts, oa, ⟨h.fr.ns.keeps hk, fun b o e => hk b o (h.fr.keep b o e), h.fr.above⟩, fun p hp => ?_, fun p hp q hq => ?_, fun p hp q hq => ?_, h.slots, h.inj, h.cells⟩
  · rcases List.mem_append.mp hp with hp | hp
    · rcases List.mem_cons.mp hp with rfl | hp
      · refine ⟨ho, fun e => ?_, none_of_keep h.fr.keep hn⟩
        obtain ⟨oL, _, _, hL', _⟩ := h.fr.ns
        simp only at e
        rw [e, hL'] at hn; cases hn
      · have q := h.nw p (by simp [hp]); exact ⟨hk _ _ q.1, q.2⟩
    · have q := h.nw p (List.mem_append_right _ hp); exact ⟨hk _ _ q.1, q.2⟩
  · rcases List.mem_append.mp hq with hq | hq
    · rcases List.mem_cons.mp hq with rfl | hq
      · intro e
        simp only at e
        have := (h.nw p (by simp [hp])).1
        rw [e, hn] at this; cases this
      · exact h.d1 p hp q (by simp [hq])
    · exact h.d1 p hp q (by simp [hq])
  · rcases List.mem_cons.mp hp with rfl | hp
    · intro e
      simp only at e
      have := (h.nw q (by simp [hq])).1
      rw [← e, hn] at this; cases this
    · exact h.d2 p hp q hq
theorem FSt.unpin {ws : Led} (h : FSt F ρ (ws ++ pin) Z s) : FSt F ρ pin Z s := by
  obtain ⟨m, muts, oa, h⟩ := h
  refine ⟨m, muts, oa, h.fr, fun p hp => h.nw p ?_, fun p hp q hq => h.d1 p hp q ?_, fun p hp q hq => h.d2 p (by simp [hp]) q hq, h.slots, h.inj, h.cells⟩
  · rcases List.mem_append.mp hp with hp | hp
    · simp [hp]
    · simp only [List.mem_append] at hp ⊢; exact .inr hp
  · rcases List.mem_append.mp hq with hq | hq
    · simp [hq]
    · simp [hq]
theorem FSt.pins (h : FSt F ρ pin Z s) : ∀ p ∈ pin ++ Z, s.heap.get? p.1 = some p.2 := by
  obtain ⟨m, muts, oa, h⟩ := h
  intro p hp
  rcases List.mem_append.mp hp with hp | hp
  · exact (h.nw p (by simp [hp])).1
  · exact (h.nw p (by simp [hp])).1

/-- how an iterator walks: n items, its own objects at wr -/
structure Itr (C : Cx) (A : Around) (target : PySem.Expr) (I : Addr) (wr fp : List Addr) (n : Nat) (item : Nat → PyData) (StI : Nat → Heap → Prop) (Z₀ : Led) : Prop where
  frame : ∀ i h h', StI i h → (∀ b ∈ fp, ∀ o, h.get? b = some o → h'.get? b = some o) → StI i h'
  live : ∀ i h, StI i h → ∀ b ∈ wr, ∃ o, h.get? b = some o
  foot : ∀ b ∈ fp, b ∈ wr ∨ ∃ o, (b, o) ∈ Z₀
  next : ∀ i Z s (K : Value → Shared → Prop), i < n → StI i s.heap → HasL s.heap Z → (∀ p ∈ Z₀, p ∈ Z) → (∀ p ∈ Z, p.1 ∉ wr) →
    (∀ v Z' h' tk, StI (i + 1) h' → (∀ b o, b ∉ wr → s.heap.get? b = some o → h'.get? b = some o) → (∀ p ∈ Z, p ∈ Z') → (∀ p ∈ Z', p ∈ Z ∨ (s.heap.get? p.1 = none ∧ h'.get? p.1 = some p.2)) → Rp Z' v (item i) → K v { s with heap := h', toks := tk }) →
    wpAny (model C.prog C.w) A (pyNext (.ref I)) (fun r s₁ => match r with
      | none => False
      | some v => wpAny (model C.prog C.w) A (letOwnedTupleGo target (.ref I) v) (fun _ s₂ => K v s₂) (fun _ _ => False) s₁) (fun _ _ => False) s
  done : ∀ (s : Shared) (K : Option Value → Shared → Prop), StI n s.heap → (∀ h' tk, (∀ b o, b ∉ wr → s.heap.get? b = some o → h'.get? b = some o) → K none { s with heap := h', toks := tk }) →
    wpAny (model C.prog C.w) A (pyNext (.ref I)) K (fun _ _ => False) s

theorem objs_at {h : Heap} : ∀ {wr : List Addr}, (∀ b ∈ wr, ∃ o, h.get? b = some o) → ∃ ws : Led, ws.map (·.1) = wr ∧ ∀ p ∈ ws, h.get? p.1 = some p.2
  | [], _ => ⟨[], rfl, fun _ hp => nomatch hp⟩
  | b :: r, hl => by
    obtain ⟨o, ho⟩ := hl b (.head _)
    obtain ⟨ws, e, hw⟩ := objs_at (wr := r) fun c hc => hl c (.tail _ hc)
    refine ⟨(b, o) :: ws, by simp [e], fun p hp => ?_⟩
    rcases List.mem_cons.mp hp with rfl | hp
    · exact ho
    · exact hw p hp

theorem loop_core (hF : FxOK C A F) {target : PySem.Expr} {I : Addr} {wr fp : List Addr} {n : Nat} {item : Nat → PyData} {StI : Nat → Heap → Prop} {Z₀ : Led} (W : Itr C A target I wr fp n item StI Z₀) {body : List PySem.Stmt}
    (P : Nat → List Slot) {Q : Out → Prop} {ws : Led} (hws : ws.map (·.1) = wr) (hst : FSt F (P 0) (ws ++ pin) Z₀ s) (hd : ∀ p ∈ pin ++ Z₀, p.1 ∉ wr) (h0 : StI 0 s.heap)
    (turn : ∀ k, k < n → ∃ ρ', Asg C A F (P k) target (item k) ρ' ∧ ExS C A F ρ' body (LoopQ (P (k + 1)) Q)) (done : Q (.next (P n)))
    {R : Result → Shared → Prop} (hR : ∀ o fl Z' s', Q o → OutAt F pin o fl Z' s' → Fwd Z₀ s Z' s' → R (.ok fl) s') : codeAny (model C.prog C.w) A (.forLoop target (.ref I) body [] F.env) R s := by
  refine codeAny_forLoop_any (fun j s' => ∃ k ws' Z', j = n + 1 - k ∧ k ≤ n ∧ ws'.map (·.1) = wr ∧ FSt F (P k) (ws' ++ pin) Z' s' ∧ Fwd Z₀ s Z' s' ∧ (∀ p ∈ pin ++ Z', p.1 ∉ wr) ∧ StI k s'.heap) ?_ (n + 1)
    ⟨0, ws, Z₀, rfl, Nat.zero_le _, hws, hst, .refl, hd, h0⟩
  rintro j s' ⟨k, ws', Z', rfl, hk, hws', hst', hz', hd', hI⟩
  have H : HasL s'.heap Z' := fun p hp => hst'.pins p (by simp [hp])
  by_cases hlt : k < n
  · refine wpAny_mono (W.next k Z' s' (fun v s₂ => ∃ Z₂ h' tk, s₂ = { s' with heap := h', toks := tk } ∧ StI (k + 1) h' ∧ (∀ b o, b ∉ wr → s'.heap.get? b = some o → h'.get? b = some o) ∧ (∀ p ∈ Z', p ∈ Z₂) ∧ (∀ p ∈ Z₂, p ∈ Z' ∨ (s'.heap.get? p.1 = none ∧ h'.get? p.1 = some p.2)) ∧ Rp Z₂ v (item k))
      hlt hI H hz'.sub (fun p hp => hd' p (by simp [hp])) fun v Z₂ h' tk a1 a2 a3 a4 a5 => ⟨Z₂, h', tk, rfl, a1, a2, a3, a4, a5⟩) (fun r s₁ hr => ?_) fun _ _ x => x.elim
    cases r with
    | none => exact hr.elim
    | some v =>
      refine wpAny_mono hr (fun _ s₂ h₂ => ?_) fun _ _ x => x.elim
      obtain ⟨Z₂, h', tk, rfl, a1, a2, a3, a4, a5⟩ := h₂
      obtain ⟨ws₂, e₂, hw₂⟩ := objs_at (W.live (k + 1) h' a1)
      have hst₂ : FSt F (P k) (ws₂ ++ pin) Z₂ { s' with heap := h', toks := tk } := hst'.moved (fun b o hb => a2 b o (hws' ▸ hb)) (fun p hp => ⟨hw₂ p hp, by rw [hws', ← e₂]; exact List.mem_map_of_mem hp⟩) (fun p hp => by rw [hws']; exact hd' p hp) a3 a4
      have hd₂ : ∀ p ∈ pin ++ Z₂, p.1 ∉ wr := fun p hp => by
        rcases List.mem_append.mp hp with hp | hp
        · exact hd' p (by simp [hp])
        · rcases a4 p hp with q | ⟨q, _⟩
          · exact hd' p (by simp [q])
          · intro hb
            obtain ⟨o, ho⟩ := W.live k _ hI p.1 hb
            rw [q] at ho; cases ho
      obtain ⟨ρ', hasg, hbody⟩ := turn k hlt
      refine wpAny_mono (hasg (ws₂ ++ pin) Z₂ _ v _ hst₂ a5 fun Z₃ s₃ hst₃ hz₃ => ?_) (fun _ _ x => x) fun _ _ x => x.elim
      refine wpAny_mono (hbody (ws₂ ++ pin) Z₃ s₃ (fun f s₄ => ∃ o Z₄, LoopQ (P (k + 1)) Q o ∧ OutAt F (ws₂ ++ pin) o f Z₄ s₄ ∧ Fwd Z₃ s₃ Z₄ s₄) hst₃ fun o fl Z₄ s₄ q1 q2 q3 => ⟨o, Z₄, q1, q2, q3⟩) (fun f s₄ h₄ => ?_) fun _ _ x => x.elim
      obtain ⟨o, Z₄, q1, q2, q3⟩ := h₄
      have hz₄ : Fwd Z₀ s Z₄ s₄ := hz'.trans (.trans (Z' := Z₂) ⟨⟨h', tk, rfl⟩, a3⟩ (hz₃.trans q3))
      have more : ∀ R', FSt F R' (ws₂ ++ pin) Z₄ s₄ → Sub (P (k + 1)) R' → ∃ mm, mm < n + 1 - k ∧ ∃ k' ws' Z', mm = n + 1 - k' ∧ k' ≤ n ∧ ws'.map (·.1) = wr ∧ FSt F (P k') (ws' ++ pin) Z' s₄ ∧ Fwd Z₀ s Z' s₄ ∧ (∀ p ∈ pin ++ Z', p.1 ∉ wr) ∧ StI k' s₄.heap := fun R' hR' hs => by
        have hp4 := hR'.pins
        refine ⟨n + 1 - (k + 1), by omega, k + 1, ws₂, Z₄, rfl, hlt, e₂, hR'.weaken hs, hz₄, ?_, W.frame _ _ _ a1 fun b hb o e => ?_⟩
        · intro p hp hb
          rcases List.mem_append.mp hp with hp | hp
          · exact hd₂ p (by simp [hp]) hb
          · rw [← e₂] at hb
            obtain ⟨r, hr, e⟩ := List.mem_map.mp hb
            obtain ⟨_, _, _, q⟩ := hR'
            exact q.d2 r (by simp [hr]) p hp e
        · rcases W.foot b hb with q | ⟨ob, q⟩
          · rw [← e₂] at q
            obtain ⟨p, hp, rfl⟩ := List.mem_map.mp q
            have := hw₂ p hp
            rw [e] at this
            obtain rfl := Option.some.inj this
            exact hp4 p (by simp [hp])
          · have r1 := hst₂.pins (b, ob) (by simp [a3 _ (hz'.sub _ q)])
            simp only at r1
            rw [e] at r1
            obtain rfl := Option.some.inj r1
            exact hp4 (b, o) (by simp [hz₄.sub _ q])
      cases o with
      | next R' => obtain ⟨rfl, q2⟩ := q2; exact more R' q2 q1
      | cont R' => obtain ⟨rfl, q2⟩ := q2; exact more R' q2 q1
      | brk R' => obtain ⟨rfl, q2⟩ := q2; exact hR _ _ Z₄ s₄ q1 ⟨rfl, q2.unpin⟩ hz₄
      | ret d => obtain ⟨v, R', rfl, r, q2⟩ := q2; exact hR _ _ Z₄ s₄ q1 ⟨v, R', rfl, r, q2.unpin⟩ hz₄
  · have hkn : k = n := by omega
    subst hkn
    refine wpAny_mono (W.done s' (fun r s₁ => r = none ∧ ∃ h' tk, s₁ = { s' with heap := h', toks := tk } ∧ ∀ b o, b ∉ wr → s'.heap.get? b = some o → h'.get? b = some o) hI fun h' tk hk' => ⟨rfl, h', tk, rfl, hk'⟩) (fun r s₁ hr => ?_) fun _ _ x => x.elim
    obtain ⟨rfl, h', tk, rfl, hk'⟩ := hr
    refine wpAny_execs_nil (hR _ _ Z' _ done ⟨rfl, ?_⟩ (hz'.trans .at))
    have := hst'.moved (ws' := []) (s' := { s' with heap := h', toks := tk }) (fun b o hb => hk' b o (hws' ▸ hb)) (fun p hp => nomatch hp) (fun p hp => by rw [hws']; exact hd' p hp) (fun _ h => h) fun p hp => .inl hp
    simpa using this
end
end Mine

namespace Mine
open PySem PySem.W PySem.Spec PySem.Calls PyProof.Rows

section
variable {C : Cx} {A : Around} {F : Fx} {ρ ρ' : List Slot} {pin Z : Led} {s : Shared}

/-- an iterator that is none of those that keep their tuple -/
theorem letGo_plain {target : PySem.Expr} {I : Addr} {o : Obj} {v : Value} {T : String} {vs : Array Value} (ho : s.heap.get? I = some o) (hc : o.cls = .type T) (hd : o.data = .fields vs)
    (hT : ["enumerate", "zip", "dict_itemiterator", "dict_reverseitemiterator", "odict_iterator", "itertools.zip_longest", "itertools.pairwise"].contains T = false)
    {K : Unit → Shared → Prop} {E : Value → Shared → Prop} (hK : K () s) : wpAny (model C.prog C.w) A (letOwnedTupleGo target (.ref I) v) K E s := by
  have go : wpAny (model C.prog C.w) A (do
      let (.ref r, .ref a) := (Value.ref I, v) | return
      let o ← load r
      match o.cls, o.data with
      | .type n, .fields vs =>
        if ["enumerate", "zip", "dict_itemiterator", "dict_reverseitemiterator", "odict_iterator", "itertools.zip_longest", "itertools.pairwise"].contains n && vs[0]? == some (rawInt a) then
          rule "for.unpacks-the-owned-tuple"
          updateField r 0 .none
      | _, _ => pure ()) K E s := by
    cases v with
    | ref a =>
      refine wpAny_bind (wpAny_load ho ?_)
      rw [hc, hd]
      simp only [hT, Bool.false_and, Bool.false_eq_true, if_false]
      exact wpAny_pure hK
    | _ => exact wpAny_pure hK
  unfold letOwnedTupleGo
  split
  · exact go
  · exact go
  · exact wpAny_pure hK

theorem Itr.list (hh : A.handled = none) {target : PySem.Expr} {I l : Addr} (hne : l ≠ I) {vs : List Value} {ds : List PyData} {Z₀ : Led} {ol : Obj} (hm : (l, ol) ∈ Z₀) (hi : Rps Z₀ vs ds) :
    Itr C A target I [I] [I, l] ds.length (fun i => ds.getD i .none) (fun i h => h.IsListIter I l i ∧ h.IsList l vs.toArray) Z₀ := by
  have l0 := hi.length
  have W := Walks.list (prog := C.prog) (w := C.w) (A := A) hh I l hne vs.toArray
  rw [List.size_toArray, l0] at W
  refine ⟨W.frame, fun i h hs b hb => ?_, fun b hb => ?_, fun i Z s K hi' hs H hz _ hK => ?_, fun s K hs hK => ?_⟩
  · rw [List.mem_singleton.mp hb]; obtain ⟨o, ho, _⟩ := hs.1; exact ⟨o, ho⟩
  · rcases List.mem_cons.mp hb with rfl | hb
    · exact .inl (List.mem_singleton.mpr rfl)
    · rw [List.mem_singleton.mp hb]; exact .inr ⟨ol, hm⟩
  · refine W.item i s _ _ hi' hs fun v h' tk hv hs' hk => ?_
    obtain ⟨o, ho, hc, hd⟩ := hs'.1
    refine letGo_plain (s := { s with heap := h', toks := tk }) ho hc hd (by decide) (hK v Z h' tk hs' hk (fun _ h => h) (fun p hp => .inl hp) ?_)
    obtain ⟨d, e1, e2⟩ := hi.getV (by simpa using hv)
    rw [List.getD_eq_getElem?_getD, e1]
    exact e2.mono hz
  · exact W.done s _ _ hs hK

theorem Itr.tuple (hh : A.handled = none) {target : PySem.Expr} {I l : Addr} (hne : l ≠ I) {vs : List Value} {ds : List PyData} {Z₀ : Led} {ol : Obj} (hm : (l, ol) ∈ Z₀) (hi : Rps Z₀ vs ds) :
    Itr C A target I [I] [I, l] ds.length (fun i => ds.getD i .none) (fun i h => h.IsTupleIter I l i ∧ h.IsTuple l vs.toArray) Z₀ := by
  have l0 := hi.length
  have W := Walks.tuple (prog := C.prog) (w := C.w) (A := A) hh I l hne vs.toArray
  rw [List.size_toArray, l0] at W
  refine ⟨W.frame, fun i h hs b hb => ?_, fun b hb => ?_, fun i Z s K hi' hs H hz _ hK => ?_, fun s K hs hK => ?_⟩
  · rw [List.mem_singleton.mp hb]; obtain ⟨o, ho, _⟩ := hs.1; exact ⟨o, ho⟩
  · rcases List.mem_cons.mp hb with rfl | hb
    · exact .inl (List.mem_singleton.mpr rfl)
    · rw [List.mem_singleton.mp hb]; exact .inr ⟨ol, hm⟩
  · refine W.item i s _ _ hi' hs fun v h' tk hv hs' hk => ?_
    obtain ⟨o, ho, hc, hd⟩ := hs'.1
    refine letGo_plain (s := { s with heap := h', toks := tk }) ho hc hd (by decide) (hK v Z h' tk hs' hk (fun _ h => h) (fun p hp => .inl hp) ?_)
    obtain ⟨d, e1, e2⟩ := hi.getV (by simpa using hv)
    rw [List.getD_eq_getElem?_getD, e1]
    exact e2.mono hz
  · exact W.done s _ _ hs hK

theorem Itr.range (hh : A.handled = none) {target : PySem.Expr} {I : Addr} {a : Int} {n : Nat} {Z₀ : Led} :
    Itr C A target I [I] [I] n (fun i => .int (a + (i : Int))) (fun i h => IsRangeIter h I (a + (i : Nat) * 1) ((n : Int) - (i : Nat)) 1) Z₀ := by
  have W := Walks.range (prog := C.prog) (w := C.w) (A := A) hh I a 1 n
  refine ⟨W.frame, fun i h hs b hb => ?_, fun b hb => .inl hb, fun i Z s K hi' hs H hz _ hK => ?_, fun s K hs hK => ?_⟩
  · rw [List.mem_singleton.mp hb]; exact ⟨_, hs⟩
  · refine W.item i s _ _ hi' hs fun v h' tk hv hs' hk => ?_
    obtain ⟨t, rfl⟩ := hv
    refine letGo_plain (s := { s with heap := h', toks := tk }) hs' rfl rfl (by decide) (hK _ Z h' tk hs' hk (fun _ h => h) (fun p hp => .inl hp) ?_)
    rw [Int.mul_one]
    exact .int _ _
  · exact W.done s _ _ hs hK

/-- a loop over a list or a tuple -/
theorem Ex1.forSeq (hF : FxOK C A F) (hh : A.handled = none) {target iter : PySem.Expr} {body : List PySem.Stmt} {pos : Pos} {d : PyData} {ds : List PyData} {Q : Out → Prop} (he : EvE C A (FS F ρ) F.env iter d) (hd : d = .list ds ∨ d = .tuple ds)
    (P : Nat → List Slot) (h0 : Sub (P 0) ρ) (turn : ∀ k x, ds[k]? = some x → ∃ ρ', Asg C A F (P k) target x ρ' ∧ ExS C A F ρ' body (LoopQ (P (k + 1)) Q)) (done : Q (.next (P ds.length)))
    (hs : ∀ x, foldedSetIterable iter F.env x = pure x := by intro _; rfl) : Ex1 C A F ρ (.For target iter body [] pos) Q := fun pin Z s K hst hK => by
  have turn' : ∀ k, k < ds.length → ∃ ρ', Asg C A F (P k) target (ds.getD k .none) ρ' ∧ ExS C A F ρ' body (LoopQ (P (k + 1)) Q) := fun k hk => by
    have : ds[k]? = some (ds.getD k .none) := by rw [List.getD_eq_getElem?_getD, List.getElem?_eq_getElem hk]; rfl
    exact turn k _ this
  refine wpAny_For (he Z s _ _ ⟨pin, hst⟩ fun v Z1 s1 x1 r1 => ?_) hs
  have hst1 := (hst.ext x1).weaken h0
  have H1 : HasL s1.heap Z1 := fun p hp => hst1.pins p (by simp [hp])
  have fresh := fresh_get s1.heap
  have off : ∀ p ∈ pin ++ Z1, p.1 ∉ [s1.heap.objs.size] := fun p hp q => by
    have := hst1.pins p hp
    rw [List.mem_singleton.mp q, fresh] at this; cases this
  rcases hd with rfl | rfl
  · cases r1 with
    | list hm hc hdt hi =>
      have hl : s1.heap.IsList _ _ := ⟨_, H1 _ hm, hc, _, hdt⟩
      refine wpAny_pyIter_list hl ?_
      have hne := Nat.ne_of_lt (Heap.lt_size (H1 _ hm))
      refine loop_core hF (Itr.list hh hne hm hi) P (ws := [(s1.heap.objs.size, { cls := .type "list_iterator", data := .fields #[.ref _, .int 0 0] })]) (pin := pin) rfl
        (hst1.pinNew (push_keeps _) fresh (Heap.get?_push_size _ rfl)) off ⟨⟨_, Heap.get?_push_size _ rfl, rfl, rfl⟩, hl.at fun o e => Heap.get?_push_of_some _ e⟩ turn' done
        fun o fl Z' s' q1 q2 q3 => hK o fl Z' s' q1 q2 (x1.fwd.trans (.trans (.at (tk := s1.toks)) q3))
  · cases r1 with
    | tuple hm hc hdt hi =>
      have hl : s1.heap.IsTuple _ _ := ⟨_, H1 _ hm, hc, _, hdt⟩
      refine wpAny_pyIter_tuple hl ?_
      have hne := Nat.ne_of_lt (Heap.lt_size (H1 _ hm))
      refine loop_core hF (Itr.tuple hh hne hm hi) P (ws := [(s1.heap.objs.size, { cls := .type "tuple_iterator", data := .fields #[.ref _, .int 0 0] })]) (pin := pin) rfl
        (hst1.pinNew (push_keeps _) fresh (Heap.get?_push_size _ rfl)) off ⟨⟨_, Heap.get?_push_size _ rfl, rfl, rfl⟩, hl.at fun o e => Heap.get?_push_of_some _ e⟩ turn' done
        fun o fl Z' s' q1 q2 q3 => hK o fl Z' s' q1 q2 (x1.fwd.trans (.trans (.at (tk := s1.toks)) q3))

/-- range(..) as an iterable: from a on, n of them -/
def RangeE (C : Cx) (A : Around) (St : Led → Shared → Prop) (env : Env) (e : PySem.Expr) (a : Int) (n : Nat) : Prop :=
  ∀ Z s (K : Value → Shared → Prop) (E : Value → Shared → Prop), St Z s → (∀ r b t u v s', Ext Z s Z s' → IsRange s'.heap r a b 1 t u v → Builtin.Range.small a b 1 = true → Builtin.Range.rangeSize a b 1 = (n : Int) → K (.ref r) s') → wpAny (model C.prog C.w) A (eval e env) K E s

theorem Ex1.forRange (hF : FxOK C A F) (hh : A.handled = none) {target iter : PySem.Expr} {body : List PySem.Stmt} {pos : Pos} {a : Int} {n : Nat} {Q : Out → Prop} (he : RangeE C A (FS F ρ) F.env iter a n)
    (P : Nat → List Slot) (h0 : Sub (P 0) ρ) (turn : ∀ k, k < n → ∃ ρ', Asg C A F (P k) target (.int (a + (k : Int))) ρ' ∧ ExS C A F ρ' body (LoopQ (P (k + 1)) Q)) (done : Q (.next (P n)))
    (hs : ∀ x, foldedSetIterable iter F.env x = pure x := by intro _; rfl) : Ex1 C A F ρ (.For target iter body [] pos) Q := fun pin Z s K hst hK => by
  refine wpAny_For (he Z s _ _ ⟨pin, hst⟩ fun r b t u v s1 x1 hr hsm hsz => ?_) hs
  have hst1 := (hst.ext x1).weaken h0
  have fresh := fresh_get s1.heap
  have off : ∀ p ∈ pin ++ Z, p.1 ∉ [s1.heap.objs.size] := fun p hp q => by
    have := hst1.pins p hp
    rw [List.mem_singleton.mp q, fresh] at this; cases this
  refine wpAny_pyIter_range hr hsm ?_
  rw [hsz]
  refine loop_core hF (Itr.range hh) P (ws := [(s1.heap.objs.size, { cls := .type "range_iterator", data := .fields #[rawInt a, rawInt (n : Int), rawInt 1] })]) (pin := pin) rfl
    (hst1.pinNew (push_keeps _) fresh (Heap.get?_push_size _ rfl)) off ?_ turn done fun o fl Z' s' q1 q2 q3 => hK o fl Z' s' q1 q2 (x1.fwd.trans (.trans (.at (tk := s1.toks)) q3))
  show IsRangeIter _ _ _ _ _
  have := Heap.get?_push_size s1.heap (o := { cls := .type "range_iterator", data := .fields #[rawInt a, rawInt (n : Int), rawInt 1] }) rfl
  simpa using this
end

section
variable {C : Cx} {A : Around} {St : Led → Shared → Prop} {env : Env}
theorem RangeE.one (O : Okay C A St) {x : Str} {np pos : Pos} {e : PySem.Expr} {n : Nat} (hn : NmV C A St env x (.type "range")) (h : EvE C A St env e (.int n)) (hz : n < 2 ^ 60)
    (he : starEach [e] env = (false, eval e env) :: starEach [] env := by rfl) : RangeE C A St env (.Call (.Name x np) [e] [] pos) 0 n := fun Z s K E hs hK => by
  refine Call_ (hn np Z s _ E hs (PyProof.Rows.callWith_type1 ((EvEs.cons O h EvEs.nil he) pos Z s _ E hs fun vs Z1 s1 x1 r1 => ?_) he))
  cases r1 with
  | cons r1 r2 =>
    cases r2
    obtain ⟨t, rfl⟩ := r1.intAt
    refine call_range_1 (hK _ (n : Int) _ t _ _ ?_ (IsRange.new ..) (small_one (by decide) (by decide) (by omega) (by omega)) (by rw [rangeSize_one]; split <;> omega))
    obtain ⟨h1, t1, rfl⟩ := x1.same
    exact ⟨⟨_, _, rfl⟩, fun b o e => Heap.get?_push_of_some _ (x1.keep b o e), fun _ h => h, fun _ h => .inl h⟩
theorem RangeE.two (O : Okay C A St) {x : Str} {np pos : Pos} {e1 e2 : PySem.Expr} {a b : Int} (hn : NmV C A St env x (.type "range")) (h1 : EvE C A St env e1 (.int a)) (h2 : EvE C A St env e2 (.int b)) (ha : -(2 ^ 60) ≤ a ∧ a < 2 ^ 60) (hb : -(2 ^ 60) ≤ b ∧ b < 2 ^ 60)
    (he : starEach [e1, e2] env = (false, eval e1 env) :: starEach [e2] env := by rfl) (he2 : starEach [e2] env = (false, eval e2 env) :: starEach [] env := by rfl) (hp : ∀ pos, (backTo pos (starEach [e2] env)).any (·.1) = false := by intro _; rfl) :
    RangeE C A St env (.Call (.Name x np) [e1, e2] [] pos) a (b - a).toNat := fun Z s K E hs hK => by
  refine Call_ (hn np Z s _ E hs (PyProof.Rows.callWith_type1 ((EvEs.cons O h1 (EvEs.cons O h2 EvEs.nil he2) he) pos Z s _ E hs fun vs Z1 s1 x1 r1 => ?_) he (hp pos)))
  cases r1 with
  | cons r1 r2 =>
    cases r2 with
    | cons r2 r3 =>
    cases r3
    obtain ⟨t, rfl⟩ := r1.intAt
    obtain ⟨u, rfl⟩ := r2.intAt
    refine call_range_2 (hK _ b t u _ _ ?_ (IsRange.new ..) (small_one (by omega) (by omega) (by omega) (by omega)) (by rw [rangeSize_one]; split <;> omega))
    obtain ⟨h1, t1, rfl⟩ := x1.same
    exact ⟨⟨_, _, rfl⟩, fun b o e => Heap.get?_push_of_some _ (x1.keep b o e), fun _ h => h, fun _ h => .inl h⟩
end
end Mine

namespace Mine
open PySem PySem.W PySem.Spec PySem.Calls PyProof.Rows

def Out.val : Out → Option PyData
  | .next _ => some .none
  | .ret d => some d
  | .cont _ => none
  | .brk _ => none

/-- the def gives d -/
def RetQ (d : PyData) : Out → Prop := fun o => o.val = some d
theorem RetQ.ret {d d' : PyData} (h : d' = d) : RetQ d (.ret d') := congrArg some h
theorem RetQ.next {ρ : List Slot} : RetQ .none (.next ρ) := rfl
def retOf (fl : Flow) : Value := match fl with | .ret v => v | _ => .none
/-- a def of the program stands at f -/
structure DefAt (C : Cx) (f : Addr) (params : Arguments) (body : List PySem.Stmt) (scope : Scope) : Prop where
  at_ : ∃ name qual dV kV doc pm an cdv ct oc od osl, C.K.lookup f = some ⟨oc, od, .func (fnOf name qual params body scope dV kV doc pm an cdv ct), osl⟩ ∧ codeIn C.K cdv qual = true ∧
    (∀ vs : List Value, vs.length = params.args.length → bindArgs (fnOf name qual params body scope dV kV doc pm an cdv ct) ⟨vs, []⟩ = pure ((params.args.map (·.arg)).zip vs))
theorem DefAt.isFn {C : Cx} {f : Addr} {params : Arguments} {body : List PySem.Stmt} {scope : Scope} (h : DefAt C f params body scope) : IsFn C f := by
  obtain ⟨_, _, _, _, _, _, _, _, _, _, _, _, h, _⟩ := h.at_
  exact ⟨_, _, _, _, h⟩

theorem lookup_nodup {α : Type} : ∀ {l : List (Str × α)} {x : Str} {v : α}, (l.map (·.1)).Nodup → (x, v) ∈ l → l.lookup x = some v
  | (y, w) :: r, x, v, nd, hm => by
    rw [List.map_cons, List.nodup_cons] at nd
    rw [List.lookup_cons]
    rcases List.mem_cons.mp hm with e | hm
    · cases e; simp
    · have : x ≠ y := fun e => nd.1 (e ▸ List.mem_map.mpr ⟨(x, v), hm, rfl⟩)
      rw [show (x == y) = false from by simpa using this]
      exact lookup_nodup nd.2 hm
theorem zip_sub : ∀ (ps : List Str) (vs : List Value), ((ps.zip vs).map (·.1)).Sublist ps
  | [], _ => by simp
  | _ :: _, [] => by simp
  | p :: ps, v :: vs => by simpa using zip_sub ps vs
theorem lookup_zip {ps : List Str} (nd : ps.Nodup) : ∀ {vs : List Value} {i : Nat} {x : Str} {v : Value}, ps[i]? = some x → vs[i]? = some v → (ps.zip vs).reverse.lookup x = some v := by
  intro vs i x v hx hv
  have hm : (x, v) ∈ ps.zip vs := by
    refine List.mem_of_getElem? (i := i) ?_
    rw [List.getElem?_zip_eq_some]; exact ⟨hx, hv⟩
  have hnd : ((ps.zip vs).reverse.map (·.1)).Nodup := by
    rw [List.map_reverse]
    refine (List.reverse_perm _).nodup_iff.mpr ?_
    exact nd.sublist (zip_sub ps vs)
  exact lookup_nodup hnd (List.mem_reverse.mpr hm)

section
variable {C : Cx} {f : Addr} {params : Arguments} {body : List PySem.Stmt} {scope : Scope}

/-- the names' facts, said of the scope alone -/
structure ScopeOK (scope : Scope) (ns : List Str) : Prop where
  nd : ns.Nodup
  kinds : ∀ x ∈ ns, (x == ("__debug__" : Str)) = false ∧ scope.names.lookup x = some .local
  cell : ∀ x ∈ scope.names, x.2 ≠ .cell
  co : scope.isCoroutine = false
  gen : scope.isGenerator = false
  kind : scope.kind = .function

theorem FnOK.plain (D : DefAt C f params body scope) (more : List Str) {ds : List PyData} {d : PyData} {k : Nat} (hps : params.args.length = ds.length) (hS : ScopeOK scope (params.args.map (·.arg) ++ more))
    (hb : ∀ A F, FxOK C A F → F.ns = params.args.map (·.arg) ++ more → F.env.scope = scope → Room A k → A.handled = none → A.units + 200 < cLine →
      ExS C A F (ds.map .dat ++ more.map fun _ => .undef) body (RetQ d)) : FnOK C f (k + 1) ds d := by
  intro A Z s vs R hg hroom hh hr hR
  obtain ⟨A₀, base, outer, h₀, L, m, env, G⟩ := hg
  obtain ⟨name, qual, dV, kV, doc, pm, an, cdv, ct, oc, od, osl, hl, hcd, hbind⟩ := D.at_
  have N : News h₀ L s.heap Z := by simpa using G.N
  have lvs := hr.length
  have hfo := G.F.keep _ _ (G.X _ _ hl)
  have room1 : A.depth + (k + 1) ≤ 950 := hroom.depth
  have room2 : A.units + 8 * (k + 1) ≤ 4000 := hroom.units
  have hbinds := hbind vs (by rw [lvs, hps])
  have hnd : (params.args.map (·.arg)).Nodup := (List.nodup_append.mp hS.nd).1
  obtain ⟨FG, B', st, _⟩ := groundX (R := R) G.B G.F N G.hA G.hf G.hk
  refine codeAny_call_def (o := ⟨oc, od, .func (fnOf name qual params body scope dV kV doc pm an cdv ct), osl⟩) (fd := fnOf name qual params body scope dV kV doc pm an cdv ct) (body := body) (binds := (params.args.map (·.arg)).zip vs)
    (by have : recursionLimit = 1000 := rfl; omega) hfo rfl (G.T.nolimit.keeps G.F.keep) (codeRec_of (G.X.keeps G.F.keep) hcd) rfl (.of_eq hbinds) hS.cell ?_ (fun h₁ hns hk₁ => ?_) hS.co hS.gen hS.kind
  · intro y hy
    have : y.1 ∈ params.args.map (·.arg) := (List.of_mem_zip (show (y.1, y.2) ∈ _ from hy)).1
    exact (hS.kinds y.1 (List.mem_append_left _ this)).2
  generalize hgd : hideAll s.heap (Z.map (·.1)) = g at FG B' st
  have F' : Fr g s.heap.objs.size h₁ (fun y => ((params.args.map (·.arg)).zip vs).reverse.lookup y) := ⟨hns, fun b o e => hk₁ b o (of_hideAll _ (hgd ▸ e)), by rw [← hgd]; exact Nat.le_of_eq (hideAll_size _ _)⟩
  have N' : News g s.heap.objs.size h₁ Z := fun p hp => ⟨hk₁ _ _ (N p hp).1, Nat.ne_of_lt (Heap.lt_size (N p hp).1), by rw [← hgd]; exact hideAll_none _ (List.mem_map_of_mem hp)⟩
  show wpAny _ (A.deeper (envX qual scope s.heap.objs.size f cdv [])) (execs body (envX qual scope s.heap.objs.size f cdv [])) _ _ _
  generalize hL' : s.heap.objs.size = L' at *
  let F : Fx := { A₀ := A, base := base, outer := env :: outer, h₀ := g, L := L', env := envX qual scope L' f cdv [], ns := params.args.map (·.arg) ++ more }
  have hF : FxOK C (A.deeper (envX qual scope L' f cdv [])) F :=
    { B := B', X := G.X.keeps st, T := G.T.keeps st, hA := Around.frames_deeper G.hA, hf := rfl, hl := rfl, hk := hS.kind, hg := rfl, hb := rfl, nd := hS.nd,
      kinds := fun x hx => ⟨(hS.kinds x hx).1, .inl (hS.kinds x hx).2⟩, cinj := fun x y c hx => by cases hx }
  have hst : FSt F (ds.map .dat ++ more.map fun _ => .undef) [] Z { s with heap := h₁, toks := s.toks + ((params.args.map (·.arg)).zip vs).length } := by
    refine ⟨_, [], fun _ => 0, F', by simpa using N', (fun p hp => nomatch hp), (fun p hp => nomatch hp), fun i x sl hi hs => ?_, fun i j x y ds' es _ _ hi => ?_, fun x c hc => by cases hc⟩
    · cases sl with
      | undef => trivial
      | own ds' =>
        rcases Nat.lt_or_ge i ds.length with q | q
        · rw [List.getElem?_append_left (by simpa using q)] at hs
          simp at hs
        · rw [List.getElem?_append_right (by simpa using q)] at hs
          simp at hs
      | dat d' =>
        rcases Nat.lt_or_ge i ds.length with q | q
        · rw [List.getElem?_append_left (by simpa using q)] at hs
          rw [List.getElem?_map] at hs
          obtain ⟨d'', e1, e2⟩ := Option.map_eq_some_iff.mp hs
          cases e2
          obtain ⟨v, hv, rv⟩ := hr.get e1
          have hi' : (params.args.map (·.arg))[i]? = some x := by
            have : i < (params.args.map (·.arg)).length := by simpa [hps] using q
            rw [← hi]; exact (List.getElem?_append_left this).symm
          exact ⟨v, .inl ⟨(hS.kinds x (mem_of_get hi)).2, lookup_zip hnd hi' hv⟩, rv⟩
        · rw [List.getElem?_append_right (by simpa using q)] at hs
          simp at hs
    · rcases Nat.lt_or_ge i ds.length with q | q
      · rw [List.getElem?_append_left (by simpa using q)] at hi
        simp at hi
      · rw [List.getElem?_append_right (by simpa using q)] at hi
        simp at hi
  have hroom' : Room (A.deeper (envX qual scope L' f cdv [])) k := ⟨by show A.depth + 1 + k ≤ 950; omega, by show A.units + 3 + 8 * k ≤ 4000; omega⟩
  have hu : (A.deeper (envX qual scope L' f cdv [])).units + 200 < cLine := by show A.units + 3 + 200 < 9900; omega
  refine wpAny_mono (hb _ F hF rfl rfl hroom' hh hu [] Z _ (fun fl s' => ∃ v Z', retOf fl = v ∧ Rp Z' v d ∧ (∃ ρ', FSt F ρ' [] Z' s') ∧ Fwd Z { s with heap := h₁, toks := s.toks + ((params.args.map (·.arg)).zip vs).length } Z' s') hst fun o fl Z' s' q1 q2 q3 => ?_) (fun fl s' q => ?_) fun _ _ x => x.elim
  · cases o with
    | next ρ' => obtain ⟨rfl, q2⟩ := q2; cases q1; exact ⟨_, Z', rfl, .none, ⟨ρ', q2⟩, q3⟩
    | cont ρ' => cases q1
    | brk ρ' => cases q1
    | ret d' => obtain ⟨v, ρ', rfl, r, q2⟩ := q2; cases q1; exact ⟨v, Z', rfl, r, ⟨ρ', q2⟩, q3⟩
  · obtain ⟨v, Z', e, r, ⟨ρ', m', muts, oa, hI⟩, hz⟩ := q
    show R (.ok (.ret (retOf fl))) s'
    rw [e]
    have NZ := hI.newsZ
    refine hR v Z' s' ⟨hz.same, fun b o e0 => ?_, hz.sub, fun p hp => ?_⟩ r
    · by_cases hb : b ∈ Z.map (·.1)
      · obtain ⟨p, hp, rfl⟩ := List.mem_map.mp hb
        have e1 := (N p hp).1
        rw [e0] at e1
        rw [Option.some.inj e1]
        exact (NZ p (hz.sub p hp)).1
      · exact hI.fr.keep b o (by show g.get? b = some o; rw [← hgd]; exact hideAll_get _ e0 hb)
    · have q := NZ p hp
      by_cases hb : p.1 ∈ Z.map (·.1)
      · obtain ⟨p', hp', e'⟩ := List.mem_map.mp hb
        have q' := (NZ p' (hz.sub p' hp')).1
        rw [e', q.1] at q'
        have : p = p' := Prod.ext e'.symm (Option.some.inj q')
        exact .inl (this ▸ hp')
      · refine .inr ⟨?_, q.1⟩
        have q2 : g.get? p.1 = none := q.2.2
        cases e0 : s.heap.get? p.1 with
        | none => rfl
        | some o =>
          have := hideAll_get (Z.map (·.1)) e0 hb
          rw [hgd, q2] at this; cases this
end
end Mine

namespace Mine
open PySem PySem.W PySem.Spec PySem.Calls PyProof.Rows

theorem HasL.uniq {h : Heap} {Z : Led} (H : HasL h Z) {a : Addr} {o o' : Obj} (h1 : (a, o) ∈ Z) (h2 : (a, o') ∈ Z) : o = o' := by
  have e1 := H _ h1
  have e2 := H _ h2
  simp only at e1 e2
  rw [e1] at e2; exact Option.some.inj e2
mutual
theorem Rp.inj {Z : Led} {h : Heap} (H : HasL h Z) : ∀ {v : Value} {d d' : PyData}, Rp Z v d → Rp Z v d' → d = d'
  | _, _, _, .none, q => by cases q; rfl
  | _, _, _, .bool b, q => by cases q; rfl
  | _, _, _, .int i t, q => by cases q; rfl
  | _, _, _, .str x t, q => by cases q; rfl
  | _, _, _, .tuple hm hc hd r, q => by
    cases q with
    | tuple hm' hc' hd' r' =>
      obtain rfl := H.uniq hm hm'
      rw [hd] at hd'
      simp only [Data.seq.injEq] at hd'
      obtain rfl := congrArg Array.toList hd'.1
      rw [Rps.inj H r r']
    | list hm' hc' hd' r' =>
      obtain rfl := H.uniq hm hm'
      rw [hc] at hc'; exact absurd (Value.type.inj hc') (by decide)
  | _, _, _, .list hm hc hd r, q => by
    cases q with
    | list hm' hc' hd' r' =>
      obtain rfl := H.uniq hm hm'
      rw [hd] at hd'
      simp only [Data.seq.injEq] at hd'
      obtain rfl := congrArg Array.toList hd'.1
      rw [Rps.inj H r r']
    | tuple hm' hc' hd' r' =>
      obtain rfl := H.uniq hm hm'
      rw [hc] at hc'; exact absurd (Value.type.inj hc') (by decide)
theorem Rps.inj {Z : Led} {h : Heap} (H : HasL h Z) : ∀ {vs : List Value} {ds ds' : List PyData}, Rps Z vs ds → Rps Z vs ds' → ds = ds'
  | _, _, _, .nil, q => by cases q; rfl
  | _, _, _, .cons a b, q => by
    cases q with
    | cons c d => rw [Rp.inj H a c, Rps.inj H b d]
end

/-- data that is no object -/
def Flat : PyData → Prop
  | .none | .bool _ | .int _ | .str _ => True
  | _ => False
theorem Rp.flat {Z Z' : Led} {v : Value} {d : PyData} (h : Rp Z v d) (hf : Flat d) : Rp Z' v d := by
  cases h with
  | none => exact .none
  | bool b => exact .bool b
  | int i t => exact .int i t
  | str x t => exact .str x t
  | tuple => exact hf.elim
  | list => exact hf.elim

section
variable {C : Cx} {A : Around} {St : Led → Shared → Prop} {env : Env}
theorem NmV.glob (O : Okay C A St) {x : Str} {v : Value} (hk : env.scope.kind = .function) (hg : env.globals = mainGlobals) (hx : env.kindOf x = some .globalImplicit) (hd : (x == ("__debug__" : Str)) = false) (e : nsIn C.K mainGlobals x = some (some v)) : NmV C A St env x v := fun pos Z s K E hs hK => by
  obtain ⟨_, _, _, _, _, _, _, G⟩ := O.call hs
  exact Name_function_global hk hx (loadGlobal_global (hg ▸ G.T.g.keeps G.F.keep) (mg_of G.X G.T.g e) hK) hd
theorem NmV.bi (O : Okay C A St) {x : Str} {v : Value} (hk : env.scope.kind = .function) (hg : env.globals = mainGlobals) (hb : env.builtins = builtinsNs) (hx : env.kindOf x = some .globalImplicit) (hd : (x == ("__debug__" : Str)) = false)
    (e : nsIn C.K mainGlobals x = some none) (hv : bootBuiltins x = some v) (hn : x ≠ "__name__") : NmV C A St env x v := fun pos Z s K E hs hK => by
  obtain ⟨_, _, _, _, _, _, _, G⟩ := O.call hs
  exact Name_function_global hk hx (loadGlobal_builtin (hg ▸ G.T.g.keeps G.F.keep) (mg_none_of G.X G.T.g e) (hb ▸ G.T.b.keeps G.F.keep) ((G.T.builtins x hn).trans hv) hK) hd
end


theorem noInter {env : Env} (h : env.scope.kind = .function) : interactive env = false := by unfold interactive; rw [h]; rfl
end Mine

namespace Mine
open PySem PySem.W PySem.Spec PySem.Calls PyProof.Rows

/-! ## Data of a shape: without dicts, of a bounded depth -/
inductive Shp : Nat → PyData → Prop
  | int {n : Nat} {i : Int} : Shp n (.int i)
  | bool {n : Nat} {b : Bool} : Shp n (.bool b)
  | none {n : Nat} : Shp n .none
  | str {n : Nat} {x : Str} (h : PyData.strOk x = true) : Shp n (.str x)
  | list {n : Nat} {ds : List PyData} (h : ∀ x ∈ ds, Shp n x) : Shp (n + 1) (.list ds)
  | tuple {n : Nat} {ds : List PyData} (h : ∀ x ∈ ds, Shp n x) : Shp (n + 1) (.tuple ds)
theorem canAll {ds : List PyData} (h : ∀ x ∈ ds, x.canLay0 = true) : PyData.canLayAll0 ds = true := by
  induction ds with
  | nil => rfl
  | cons d ds ih =>
    rw [PyData.canLayAll0, h d (.head _), ih fun x hx => h x (.tail _ hx)]; rfl
theorem depAll {ds : List PyData} {n : Nat} (h : ∀ x ∈ ds, x.depth ≤ n) : PyData.depthAll ds ≤ n := by
  induction ds with
  | nil => exact Nat.zero_le _
  | cons d ds ih =>
    rw [PyData.depthAll]
    exact Nat.max_le.2 ⟨h d (.head _), ih fun x hx => h x (.tail _ hx)⟩
theorem Shp.can {n : Nat} {d : PyData} (h : Shp n d) : d.canLay0 = true ∧ d.depth ≤ n := by
  induction h with
  | int => exact ⟨rfl, Nat.zero_le _⟩
  | bool => exact ⟨rfl, Nat.zero_le _⟩
  | none => exact ⟨rfl, Nat.zero_le _⟩
  | str h => exact ⟨h, Nat.zero_le _⟩
  | list h ih => exact ⟨by rw [PyData.canLay0]; exact canAll fun x hx => (ih x hx).1, by rw [PyData.depth]; exact Nat.succ_le_succ (depAll fun x hx => (ih x hx).2)⟩
  | tuple h ih => exact ⟨by rw [PyData.canLay0]; exact canAll fun x hx => (ih x hx).1, by rw [PyData.depth]; exact Nat.succ_le_succ (depAll fun x hx => (ih x hx).2)⟩
theorem Shp.shaped {n : Nat} {d : PyData} (h : Shp n d) (hn : n ≤ 64 := by decide) : SeqAt.shaped d = true := by
  have := h.can
  unfold SeqAt.shaped
  rw [this.1, decide_eq_true (Nat.le_trans this.2 hn)]; rfl
theorem Shp.refl {n : Nat} {d : PyData} (h : Shp n d) : PyData.eqv d d = true := SeqAt.eqv_refl d h.can.1

/-- data on which == is equality: no bools, no dicts -/
inductive Pln : PyData → Prop
  | int {i : Int} : Pln (.int i)
  | none : Pln .none
  | str {x : Str} : Pln (.str x)
  | list {ds : List PyData} (h : ∀ x ∈ ds, Pln x) : Pln (.list ds)
  | tuple {ds : List PyData} (h : ∀ x ∈ ds, Pln x) : Pln (.tuple ds)
theorem eqvAll_eq {ds : List PyData} (ih : ∀ x ∈ ds, ∀ e, Pln e → PyData.eqv x e = true → x = e) : ∀ es : List PyData, (∀ e ∈ es, Pln e) → PyData.eqvAll ds es = true → ds = es := by
  induction ds with
  | nil => intro es _ h; cases es with | nil => rfl | cons _ _ => simp [PyData.eqvAll] at h
  | cons d ds ihd =>
    intro es hp h
    cases es with
    | nil => simp [PyData.eqvAll] at h
    | cons e es =>
      rw [PyData.eqvAll, Bool.and_eq_true] at h
      rw [ih d (.head _) e (hp e (.head _)) h.1, ihd (fun x hx => ih x (.tail _ hx)) es (fun e he => hp e (.tail _ he)) h.2]
theorem Pln.eq_of {d e : PyData} (hd : Pln d) (he : Pln e) (h : PyData.eqv d e = true) : d = e := by
  induction hd generalizing e with
  | int => cases he <;> simp_all [PyData.eqv]
  | none => cases he <;> simp_all [PyData.eqv]
  | str => cases he <;> simp_all [PyData.eqv]
  | list hl ih =>
    cases he with
    | list hk => rw [PyData.eqv] at h; rw [eqvAll_eq (fun x hx e he hh => ih x hx he hh) _ hk h]
    | int => simp [PyData.eqv] at h
    | none => simp [PyData.eqv] at h
    | str => simp [PyData.eqv] at h
    | tuple _ => simp [PyData.eqv] at h
  | tuple hl ih =>
    cases he with
    | tuple hk => rw [PyData.eqv] at h; rw [eqvAll_eq (fun x hx e he hh => ih x hx he hh) _ hk h]
    | int => simp [PyData.eqv] at h
    | none => simp [PyData.eqv] at h
    | str => simp [PyData.eqv] at h
    | list _ => simp [PyData.eqv] at h
theorem shp_nil {n : Nat} : ∀ x ∈ ([] : List PyData), Shp n x := fun _ h => nomatch h
theorem shp_cons {n : Nat} {d : PyData} {ds : List PyData} (h : Shp n d) (r : ∀ x ∈ ds, Shp n x) : ∀ x ∈ d :: ds, Shp n x := fun x hx => by
  cases hx with
  | head => exact h
  | tail _ hx => exact r x hx
end Mine

namespace Mine
open PySem PySem.W PySem.Spec PySem.Calls PyProof.Rows

/-! ## The parts of a def in the program's text -/
def stmtAt (p : Program) (i : Nat) : PySem.Stmt := p.main.body.getD i (.Pass ⟨0, 0, 0, 0⟩)
def fdParams : PySem.Stmt → Arguments
  | .FunctionDef _ a _ _ _ _ _ _ _ _ => a
  | _ => default
def fdBody : PySem.Stmt → List PySem.Stmt
  | .FunctionDef _ _ b _ _ _ _ _ _ _ => b
  | _ => []
def fdScope : PySem.Stmt → Scope
  | .FunctionDef _ _ _ _ _ _ s _ _ _ => s
  | _ => default

/-- all that the walk of a def's body leans on -/
structure Wk (C : Cx) (A : Around) (F : Fx) (k : Nat) (ns gs : List Str) : Prop where
  hF : FxOK C A F
  hns : F.ns = ns
  hG : ∀ x ∈ gs, F.env.kindOf x = some .globalImplicit ∧ (x == ("__debug__" : Str)) = false
  room : Room A k
  hh : A.handled = none
  hu : A.units + 200 < cLine

def scopeB (scope : Scope) (ns gs : List Str) : Bool :=
  decide ns.Nodup && ns.all (fun x => !(x == ("__debug__" : Str)) && scope.names.lookup x == some .local) && gs.all (fun x => !(x == ("__debug__" : Str)) && scope.names.lookup x == some .globalImplicit) &&
  scope.names.all (fun x => x.2 != .cell) && !scope.isCoroutine && !scope.isGenerator && scope.kind == .function

theorem FnOK.of {C : Cx} {f : Addr} {k : Nat} {d : PyData} (st : PySem.Stmt) (ns gs : List Str) (ds : List PyData) (more : List Str) (D : DefAt C f (fdParams st) (fdBody st) (fdScope st))
    (hps : (fdParams st).args.map (·.arg) ++ more = ns) (hlen : (fdParams st).args.length = ds.length) (hS : scopeB (fdScope st) ns gs = true)
    (hb : ∀ A F, Wk C A F k ns gs → ExS C A F (ds.map .dat ++ more.map fun _ => .undef) (fdBody st) (RetQ d)) : FnOK C f (k + 1) ds d := by
  subst hps
  unfold scopeB at hS
  simp only [Bool.and_eq_true, decide_eq_true_eq, List.all_eq_true, Bool.not_eq_true', beq_iff_eq, bne_iff_ne] at hS
  obtain ⟨⟨⟨⟨⟨⟨h1, h2⟩, h3⟩, h4⟩, h5⟩, h6⟩, h7⟩ := hS
  exact FnOK.plain D more hlen ⟨h1, h2, h4, h5, h6, h7⟩ fun A F hF hn hs hr hh hu => hb A F ⟨hF, hn, fun x hx => ⟨by show F.env.scope.names.lookup x = _; rw [hs]; exact (h3 x hx).2, (h3 x hx).1⟩, hr, hh, hu⟩

/-- a builtin's name -/
def Bi (C : Cx) (x : Str) (v : Value) : Prop := nsIn C.K mainGlobals x = some none ∧ bootBuiltins x = some v ∧ x ≠ "__name__"
/-- a def's or class's name -/
def Gl (C : Cx) (x : Str) (a : Addr) : Prop := nsIn C.K mainGlobals x = some (some (.ref a))

theorem Room.le {A : Around} {k k' : Nat} (h : Room A k) (hk : k' ≤ k) : Room A k' := ⟨by have := h.depth; omega, by have := h.units; omega⟩

namespace V
section
variable {C : Cx} {A : Around} {F : Fx} {k : Nat} {ns gs : List Str} {ρ ρ' : List Slot}

theorem ok (W : Wk C A F k ns gs) (ρ : List Slot) : Okay C A (FS F ρ) := W.hF.okay ρ
theorem var (W : Wk C A F k ns gs) {x : Str} {pos : Pos} {i : Nat} {d : PyData} (hv : Var ns ρ x i (.dat d)) : EvE C A (FS F ρ) F.env (.Name x pos) d := EvE.var W.hF (W.hns ▸ hv)
theorem bin (W : Wk C A F k ns gs) {op : PySem.Operator} {l r : PySem.Expr} {pos : Pos} {d1 d2 d : PyData} (h1 : EvE C A (FS F ρ) F.env l d1) (h2 : EvE C A (FS F ρ) F.env r d2) (hb : BinR op d1 d2 d) : EvE C A (FS F ρ) F.env (.BinOp l op r pos) d :=
  EvE.bin (ok W ρ) h1 h2 hb
theorem cmp (W : Wk C A F k ns gs) {op : PySem.CmpOp} {l r : PySem.Expr} {pos : Pos} {d1 d2 : PyData} {b : Bool} (h1 : EvE C A (FS F ρ) F.env l d1) (h2 : EvE C A (FS F ρ) F.env r d2) (hb : CmpR op d1 d2 b)
    (hm : behindInMarks op r = false := by with_unfolding_all rfl) : EvE C A (FS F ρ) F.env (.Compare l [op] [r] pos) (.bool b) := EvE.cmp (ok W ρ) W.hu h1 h2 hb hm
theorem cmpB (W : Wk C A F k ns gs) {op : PySem.CmpOp} {l r : PySem.Expr} {pos : Pos} {d1 d2 : PyData} {b : Bool} (h1 : EvE C A (FS F ρ) F.env l d1) (h2 : EvE C A (FS F ρ) F.env r d2) (hb : CmpR op d1 d2 b)
    (hm : behindInMarks op r = false := by with_unfolding_all rfl) : EvB C A (FS F ρ) F.env (.Compare l [op] [r] pos) b := EvB.cmp (ok W ρ) W.hu h1 h2 hb hm
theorem tuple (W : Wk C A F k ns gs) {es : List PySem.Expr} {n : Nat} {pos : Pos} {ds : List PyData} (h : EvEs C A (FS F ρ) F.env es ds) (hz : ds.length ≤ 2 ^ 20) : EvE C A (FS F ρ) F.env (.Tuple es n pos) (.tuple ds) := EvE.tuple (ok W ρ) h hz
theorem list (W : Wk C A F k ns gs) {es : List PySem.Expr} {pos : Pos} {ds : List PyData} (h : EvEs C A (FS F ρ) F.env es ds) (hz : ds.length ≤ 2 ^ 20) : EvE C A (FS F ρ) F.env (.List es pos) (.list ds) := EvE.list (ok W ρ) h hz
theorem cons (W : Wk C A F k ns gs) {e : PySem.Expr} {es : List PySem.Expr} {d : PyData} {ds : List PyData} (h : EvE C A (FS F ρ) F.env e d) (r : EvEs C A (FS F ρ) F.env es ds)
    (he : starEach (e :: es) F.env = (false, eval e F.env) :: starEach es F.env := by with_unfolding_all rfl) : EvEs C A (FS F ρ) F.env (e :: es) (d :: ds) := EvEs.cons (ok W ρ) h r he
theorem item (W : Wk C A F k ns gs) {value slice : PySem.Expr} {pos : Pos} {d d' : PyData} {ds : List PyData} {i : Int} {j : Nat} (h1 : EvE C A (FS F ρ) F.env value d) (h2 : EvE C A (FS F ρ) F.env slice (.int i))
    (hd : d = .list ds ∨ d = .tuple ds) (hz : ds.length ≤ 2 ^ 40) (hj : seqIndex? i ds.length = some j) (hx : ds[j]? = some d')
    (hs : notSlice slice = true := by with_unfolding_all rfl) : EvE C A (FS F ρ) F.env (.Subscript value slice pos) d' :=
  EvE.item (ok W ρ) h1 h2 hd hz hj hx hs
theorem ownItem (W : Wk C A F k ns gs) {x : Str} {np pos : Pos} {slice : PySem.Expr} {i : Nat} {ds : List PyData} {d' : PyData} {q : Int} {j : Nat} (hv : Var ns ρ x i (.own ds)) (h2 : EvE C A (FS F ρ) F.env slice (.int q))
    (hz : ds.length ≤ 2 ^ 40) (hj : seqIndex? q ds.length = some j) (hx : ds[j]? = some d')
    (hs : notSlice slice = true := by with_unfolding_all rfl) : EvE C A (FS F ρ) F.env (.Subscript (.Name x np) slice pos) d' :=
  EvE.ownItem W.hF (W.hns ▸ hv) h2 hz hj hx hs
theorem neg (W : Wk C A F k ns gs) {e : PySem.Expr} {i : Int} {pos : Pos} (h : EvE C A (FS F ρ) F.env e (.int i)) : EvE C A (FS F ρ) F.env (.UnaryOp .USub e pos) (.int (-i)) := EvE.neg (ok W ρ) h
theorem not (W : Wk C A F k ns gs) {e : PySem.Expr} {b : Bool} {pos : Pos} (h : EvE C A (FS F ρ) F.env e (.bool b)) : EvE C A (FS F ρ) F.env (.UnaryOp .Not e pos) (.bool (!b)) := EvE.not (ok W ρ) h
theorem and (W : Wk C A F k ns gs) {e e2 : PySem.Expr} {es : List PySem.Expr} {b c : Bool} {pos : Pos} (h : EvE C A (FS F ρ) F.env e (.bool b)) (r : b = true → EvE C A (FS F ρ) F.env (.BoolOp .And (e2 :: es) pos) (.bool c)) :
    EvE C A (FS F ρ) F.env (.BoolOp .And (e :: e2 :: es) pos) (.bool (b && c)) := EvE.and (ok W ρ) h r
theorem or (W : Wk C A F k ns gs) {e e2 : PySem.Expr} {es : List PySem.Expr} {b c : Bool} {pos : Pos} (h : EvE C A (FS F ρ) F.env e (.bool b)) (r : b = false → EvE C A (FS F ρ) F.env (.BoolOp .Or (e2 :: es) pos) (.bool c)) :
    EvE C A (FS F ρ) F.env (.BoolOp .Or (e :: e2 :: es) pos) (.bool (b || c)) := EvE.or (ok W ρ) h r
theorem andB (W : Wk C A F k ns gs) {e : PySem.Expr} {es : List PySem.Expr} {b c : Bool} {pos : Pos} (h : EvB C A (FS F ρ) F.env e b) (r : b = true → EvB C A (FS F ρ) F.env (.BoolOp .And es pos) c) : EvB C A (FS F ρ) F.env (.BoolOp .And (e :: es) pos) (b && c) :=
  EvB.and (ok W ρ) h r
theorem orB (W : Wk C A F k ns gs) {e : PySem.Expr} {es : List PySem.Expr} {b c : Bool} {pos : Pos} (h : EvB C A (FS F ρ) F.env e b) (r : b = false → EvB C A (FS F ρ) F.env (.BoolOp .Or es pos) c) : EvB C A (FS F ρ) F.env (.BoolOp .Or (e :: es) pos) (b || c) :=
  EvB.or (ok W ρ) h r
theorem plainB (W : Wk C A F k ns gs) {e : PySem.Expr} {b : Bool} (h : EvE C A (FS F ρ) F.env e (.bool b)) (he : ∀ whole, isTrue e F.env whole = (do let v ← whole; standAt e.pos; holding [v] (truthy v)) := by intro _; with_unfolding_all rfl) : EvB C A (FS F ρ) F.env e b :=
  EvB.plain (ok W ρ) h he

theorem gl (W : Wk C A F k ns gs) {x : Str} {a : Addr} (hx : x ∈ gs) (h : Gl C x a) : NmV C A (FS F ρ) F.env x (.ref a) := NmV.glob (ok W ρ) W.hF.hk W.hF.hg (W.hG x hx).1 (W.hG x hx).2 h
theorem bi (W : Wk C A F k ns gs) {x : Str} {v : Value} (hx : x ∈ gs) (h : Bi C x v) : NmV C A (FS F ρ) F.env x v := NmV.bi (ok W ρ) W.hF.hk W.hF.hg W.hF.hb (W.hG x hx).1 (W.hG x hx).2 h.1 h.2.1 h.2.2

theorem call (W : Wk C A F k ns gs) {x : Str} {np pos : Pos} {e : PySem.Expr} {es : List PySem.Expr} {f : Addr} {k' : Nat} {ds : List PyData} {d : PyData} (hx : x ∈ gs) (hg : Gl C x f) (hfn : IsFn C f) (ha : EvEs C A (FS F ρ) F.env (e :: es) ds)
    (hf : FnOK C f k' ds d) (hk : k' ≤ k) (he : starEach (e :: es) F.env = (false, eval e F.env) :: starEach es F.env := by with_unfolding_all rfl) : EvE C A (FS F ρ) F.env (.Call (.Name x np) (e :: es) [] pos) d :=
  EvE.call (ok W ρ) (W.room.le hk) W.hh (gl W hx hg) hfn ha hf he
theorem callB (W : Wk C A F k ns gs) {x : Str} {np pos : Pos} {e : PySem.Expr} {es : List PySem.Expr} {id : String} {ds : List PyData} {d : PyData} (hx : x ∈ gs) (hb : Bi C x (.builtin id)) (ha : EvEs C A (FS F ρ) F.env (e :: es) ds)
    (hf : BiOK C A (.builtin id) ds d) (he : starEach (e :: es) F.env = (false, eval e F.env) :: starEach es F.env := by with_unfolding_all rfl) (hp : (backTo pos (starEach es F.env)).any (·.1) = false := by with_unfolding_all rfl) : EvE C A (FS F ρ) F.env (.Call (.Name x np) (e :: es) [] pos) d :=
  EvE.callB (ok W ρ) (bi W hx hb) ha hf he hp
theorem callT (W : Wk C A F k ns gs) {x : Str} {np pos : Pos} {e : PySem.Expr} {es : List PySem.Expr} {id : String} {ds : List PyData} {d : PyData} (hx : x ∈ gs) (hb : Bi C x (.type id)) (ha : EvEs C A (FS F ρ) F.env (e :: es) ds)
    (hf : BiOK C A (.type id) ds d) (he : starEach (e :: es) F.env = (false, eval e F.env) :: starEach es F.env := by with_unfolding_all rfl) (hp : (backTo pos (starEach es F.env)).any (·.1) = false := by with_unfolding_all rfl) : EvE C A (FS F ρ) F.env (.Call (.Name x np) (e :: es) [] pos) d :=
  EvE.callT (ok W ρ) (bi W hx hb) ha hf he hp
theorem bmax (W : Wk C A F k ns gs) {i j : Int} : BiOK C A (.builtin "max") [.int i, .int j] (.int (if j > i then j else i)) := bi_max W.hh
theorem bmin (W : Wk C A F k ns gs) {i j : Int} : BiOK C A (.builtin "min") [.int i, .int j] (.int (if j < i then j else i)) := bi_min W.hh

/-- isinstance against a built-in class -/
inductive IsiR : PyData → String → Bool → Prop
  | int_int {i : Int} : IsiR (.int i) "int" true
  | int_bool {i : Int} : IsiR (.int i) "bool" false
  | bool_bool {b : Bool} : IsiR (.bool b) "bool" true
  | tuple {ds : List PyData} : IsiR (.tuple ds) "tuple" true
  | list {ds : List PyData} : IsiR (.list ds) "list" true
theorem isi (W : Wk C A F k ns gs) {x y : Str} {np pos yp : Pos} {e : PySem.Expr} {T : String} {d : PyData} {b : Bool} (hx : x ∈ gs) (hb : Bi C x (.builtin "isinstance")) (hy : y ∈ gs) (hT : Bi C y (.type T)) (h : EvE C A (FS F ρ) F.env e d) (hr : IsiR d T b)
    (he : starEach [e, .Name y yp] F.env = (false, eval e F.env) :: starEach [.Name y yp] F.env := by with_unfolding_all rfl) (hp : (backTo pos (starEach [.Name y yp] F.env)).any (·.1) = false := by with_unfolding_all rfl) : EvE C A (FS F ρ) F.env (.Call (.Name x np) [e, .Name y yp] [] pos) (.bool b) := fun Z s K E hs hK => by
  refine Call_ (bi W hx hb np Z s _ E hs (PyProof.Rows.callWith_builtin1 (args_cons (h Z s _ E hs fun v Z1 s1 x1 r1 => args_cons (bi W hy hT yp Z1 s1 _ E ((ok W ρ).ext hs x1) (args_nil ?_)) rfl) he) he hp))
  have H := (ok W ρ).has ((ok W ρ).ext hs x1)
  cases hr with
  | int_int => obtain ⟨t, rfl⟩ := r1.intAt; exact IsiPair.int_int (hK _ _ _ x1 (.bool _))
  | int_bool => obtain ⟨t, rfl⟩ := r1.intAt; exact IsiPair.int_bool (hK _ _ _ (x1.trans (.toks _)) (.bool _))
  | bool_bool => rw [r1.boolAt]; exact IsiPair.bool_bool (hK _ _ _ x1 (.bool _))
  | tuple => cases r1 with | tuple hm hc hd r => exact IsiPair.tuple_tuple (H _ hm) hc (hK _ _ _ x1 (.bool _))
  | list => cases r1 with | list hm hc hd r => exact IsiPair.list_list (H _ hm) hc (hK _ _ _ x1 (.bool _))

/-! statements -/
theorem assign (W : Wk C A F k ns gs) {x : Str} {px pos : Pos} {e : PySem.Expr} {d : PyData} {i : Nat} {Q : Out → Prop} (he : EvE C A (FS F ρ) F.env e d) (hu : Upd ns ρ x (.dat d) i ρ') (hq : Q (.next ρ'))
    (hs : swapsWith e (some (.Name x px)) pos.line F.env = pure false := by with_unfolding_all rfl) : Ex1 C A F ρ (.Assign [.Name x px] e pos) Q := Ex1.assign W.hF he (W.hns ▸ hu) hq hs
theorem assignOwn (W : Wk C A F k ns gs) {x : Str} {px pos lp : Pos} {es : List PySem.Expr} {ds : List PyData} {i : Nat} {Q : Out → Prop} (he : EvEs C A (FS F ρ) F.env es ds) (hu : Upd ns ρ x (.own ds) i ρ') (hz : ds.length ≤ 2 ^ 20) (hq : Q (.next ρ'))
    (hs : swapsWith (.List es lp) (some (.Name x px)) pos.line F.env = pure false := by with_unfolding_all rfl) : Ex1 C A F ρ (.Assign [.Name x px] (.List es lp) pos) Q := Ex1.assignOwn W.hF he (W.hns ▸ hu) hq hz hs
theorem append (W : Wk C A F k ns gs) {x : Str} {np apos cpos pos : Pos} {e : PySem.Expr} {d : PyData} {ds : List PyData} {i i' : Nat} {Q : Out → Prop} (hv : Var ns ρ x i (.own ds)) (he : EvE C A (FS F ρ) F.env e d) (hu : Upd ns ρ x (.own (ds ++ [d])) i' ρ')
    (hz : ds.length ≤ 2 ^ 20) (hq : Q (.next ρ'))
    (hs : swapsWith (.Call (.Attribute (.Name x np) "append" apos) [e] [] cpos) none pos.line F.env = pure false := by with_unfolding_all rfl)
    (hbase : attributeBase (.Name x np) "append" F.env (eval (.Name x np) F.env) = eval (.Name x np) F.env := by with_unfolding_all rfl)
    (hfew : ((backTo cpos (starEach [e] F.env)).all (fun x => !x.1) && (backToKw cpos (keywordEach [] F.env)).all (fun x => x.1.isSome)
      && decide (([e] : List PySem.Expr).length + ([] : List Keyword).length + (if ([] : List Keyword).isEmpty then 0 else 1) < 30)) = true := by with_unfolding_all rfl)
    (hline : (apos.endLine == cpos.line) = true := by with_unfolding_all rfl) (htrees : backTo cpos (starEach [e] F.env) = [(false, eval e F.env)] := by with_unfolding_all rfl) :
    Ex1 C A F ρ (.Expr (.Call (.Attribute (.Name x np) "append" apos) [e] [] cpos) pos) Q := Ex1.append W.hF (W.hns ▸ hv) he (W.hns ▸ hu) hq hz (noInter W.hF.hk) hs hbase hfew hline htrees
theorem freeze (W : Wk C A F k ns gs) {x : Str} {ds : List PyData} {i i' : Nat} {ss : List PySem.Stmt} {Q : Out → Prop} (hv : Var ns ρ x i (.own ds)) (hu : Upd ns ρ x (.dat (.list ds)) i' ρ') (h : ExS C A F ρ' ss Q) : ExS C A F ρ ss Q := ExS.freeze W.hF (W.hns ▸ hv) (W.hns ▸ hu) h
theorem unpack (W : Wk C A F k ns gs) {ts : List PySem.Expr} {n : Nat} {tp pos : Pos} {e : PySem.Expr} {ds : List PyData} {Q : Out → Prop} (he : EvE C A (FS F ρ) F.env e (.tuple ds)) (hu : AsgL ns ρ ts ds ρ') (hq : Q (.next ρ'))
    (hs : swapsWithSole [.Tuple ts n tp] e pos.line F.env = pure false := by with_unfolding_all rfl) (hw : swappedStores [.Tuple ts n tp] e F.env = pure none := by with_unfolding_all rfl) : Ex1 C A F ρ (.Assign [.Tuple ts n tp] e pos) Q := Ex1.unpack W.hF W.hh he (W.hns ▸ hu) hq hs hw
theorem tname (W : Wk C A F k ns gs) {x : Str} {px : Pos} {d : PyData} {i : Nat} (hu : Upd ns ρ x (.dat d) i ρ') : Asg C A F ρ (.Name x px) d ρ' := Asg.name W.hF (W.hns ▸ hu)
theorem ttuple (W : Wk C A F k ns gs) {ts : List PySem.Expr} {ds : List PyData} {n : Nat} {pos : Pos} (h : AsgL ns ρ ts ds ρ') : Asg C A F ρ (.Tuple ts n pos) (.tuple ds) ρ' := Asg.tuple W.hF W.hh (W.hns ▸ h)
theorem forSeq (W : Wk C A F k ns gs) {target iter : PySem.Expr} {body : List PySem.Stmt} {pos : Pos} {d : PyData} {ds : List PyData} {Q : Out → Prop} (P : Nat → List Slot) (he : EvE C A (FS F ρ) F.env iter d) (hd : d = .list ds ∨ d = .tuple ds)
    (h0 : Sub (P 0) ρ) (turn : ∀ k x, ds[k]? = some x → ∃ ρ', Asg C A F (P k) target x ρ' ∧ ExS C A F ρ' body (LoopQ (P (k + 1)) Q)) (done : Q (.next (P ds.length)))
    (hs : ∀ x, foldedSetIterable iter F.env x = pure x := by intro _; with_unfolding_all rfl) : Ex1 C A F ρ (.For target iter body [] pos) Q := Ex1.forSeq W.hF W.hh he hd P h0 turn done hs
theorem forRange (W : Wk C A F k ns gs) {target iter : PySem.Expr} {body : List PySem.Stmt} {pos : Pos} {a : Int} {n : Nat} {Q : Out → Prop} (P : Nat → List Slot) (he : RangeE C A (FS F ρ) F.env iter a n)
    (h0 : Sub (P 0) ρ) (turn : ∀ k, k < n → ∃ ρ', Asg C A F (P k) target (.int (a + (k : Int))) ρ' ∧ ExS C A F ρ' body (LoopQ (P (k + 1)) Q)) (done : Q (.next (P n)))
    (hs : ∀ x, foldedSetIterable iter F.env x = pure x := by intro _; with_unfolding_all rfl) : Ex1 C A F ρ (.For target iter body [] pos) Q := Ex1.forRange W.hF W.hh he P h0 turn done hs
theorem range1 (W : Wk C A F k ns gs) {x : Str} {np pos : Pos} {e : PySem.Expr} {n : Nat} (hx : x ∈ gs) (hb : Bi C x (.type "range")) (h : EvE C A (FS F ρ) F.env e (.int n)) (hz : n < 2 ^ 60)
    (he : starEach [e] F.env = (false, eval e F.env) :: starEach [] F.env := by with_unfolding_all rfl) : RangeE C A (FS F ρ) F.env (.Call (.Name x np) [e] [] pos) 0 n := RangeE.one (ok W ρ) (bi W hx hb) h hz he
theorem range2 (W : Wk C A F k ns gs) {x : Str} {np pos : Pos} {e1 e2 : PySem.Expr} {a b : Int} (hx : x ∈ gs) (hn : Bi C x (.type "range")) (h1 : EvE C A (FS F ρ) F.env e1 (.int a)) (h2 : EvE C A (FS F ρ) F.env e2 (.int b)) (ha : -(2 ^ 60) ≤ a ∧ a < 2 ^ 60) (hb : -(2 ^ 60) ≤ b ∧ b < 2 ^ 60)
    (he : starEach [e1, e2] F.env = (false, eval e1 F.env) :: starEach [e2] F.env := by with_unfolding_all rfl) (he2 : starEach [e2] F.env = (false, eval e2 F.env) :: starEach [] F.env := by with_unfolding_all rfl) (hp : ∀ pos, (backTo pos (starEach [e2] F.env)).any (·.1) = false := by intro _; with_unfolding_all rfl) :
    RangeE C A (FS F ρ) F.env (.Call (.Name x np) [e1, e2] [] pos) a (b - a).toNat := RangeE.two (ok W ρ) (bi W hx hn) h1 h2 ha hb he he2 hp
end
end V
end Mine

namespace Mine
open PySem PySem.W PySem.Spec PySem.Calls PyProof.Rows

theorem ints_rps {Z : Led} : ∀ {vs : List Value} {ns : List Int}, IntsAre vs ns → Rps Z vs (ns.map .int)
  | _, _, .nil => .nil
  | _, _, .cons n t r => .cons (.int n t) (ints_rps r)

theorem ns_hide {h : Heap} {a b : Addr} {m : Str → Option Value} {o : Obj} (hn : h.Ns a m) (ho : h.get? b = some o) (hd : ∀ es n, o.data ≠ .dict es n) : (hideAll h [b]).Ns a m := by
  obtain ⟨oL, es, ep, h1, h2, h3⟩ := hn
  refine ⟨oL, es, ep, hideAll_get _ h1 fun q => ?_, h2, h3⟩
  rw [List.mem_singleton.mp q, ho] at h1
  obtain rfl := Option.some.inj h1
  exact hd _ _ h2

section
variable {C : Cx} {f : Addr} {params : Arguments} {body : List PySem.Stmt} {scope : Scope} {s : Shared}

/-- the law's own call, from the claim's caller -/
theorem top_plain (D : DefAt C f params body scope) (more : List Str) {p : Str} {k : Nat} (hps : params.args.map (·.arg) = [p]) (hS : ScopeOK scope (p :: more)) (hk : k ≤ 100)
    (X : C.K.In s.heap) (T : TopRead C.p C.loose C.mg C.mb s.heap) (hKl : ∀ b o, C.K.lookup b = some o → o.cls ≠ .type "list")
    {a : Addr} {vs : List Value} {ns : List Int} (hl : s.heap.IsList a vs.toArray) (hi : IntsAre vs ns)
    (hb : ∀ A F, FxOK C A F → F.ns = p :: more → F.env.scope = scope → F.outer = [] → Room A k → A.handled = none → A.units + 200 < cLine →
      ExS C A F (.dat (.list (ns.map .int)) :: more.map fun _ => .undef) body (RetQ (.bool true)))
    {R : Result → Shared → Prop} (hR : ∀ s', (∀ b o, s.heap.get? b = some o → s'.heap.get? b = some o) → (∃ h tk, s' = { s with heap := h, toks := tk }) → R (.ok (.ret (.bool true))) s') :
    codeAny (model C.prog C.w) callerA (.call (.ref f) ⟨[.ref a], []⟩) R s := by
  obtain ⟨name, qual, dV, kV, doc, pm, an, cdv, ct, oc, od, osl, hlk, hcd, hbind⟩ := D.at_
  obtain ⟨ol, hol, hcl, n, hdl⟩ := hl
  have hfo := X _ _ hlk
  have hlen : params.args.length = 1 := by have := congrArg List.length hps; simpa using this
  have hbinds := hbind [.ref a] (by rw [hlen]; rfl)
  rw [hps] at hbinds
  refine codeAny_call_def (o := ⟨oc, od, .func (fnOf name qual params body scope dV kV doc pm an cdv ct), osl⟩) (fd := fnOf name qual params body scope dV kV doc pm an cdv ct) (body := body) (binds := [p].zip [.ref a])
    (by decide) hfo rfl T.nolimit (codeRec_of X hcd) rfl (.of_eq hbinds) hS.cell ?_ (fun h₁ hns hk₁ => ?_) hS.co hS.gen hS.kind
  · intro y hy
    have : y.1 ∈ [p] := (List.of_mem_zip (show (y.1, y.2) ∈ _ from hy)).1
    exact (hS.kinds y.1 (by rw [List.mem_singleton.mp this]; exact .head _)).2
  have hnd : ∀ es n, ol.data ≠ .dict es n := fun es n e => by rw [hdl] at e; cases e
  have hga : ∀ b o, s.heap.get? b = some o → b ≠ a → (hideAll s.heap [a]).get? b = some o := fun b o e hne => hideAll_get _ e fun q => hne (List.mem_singleton.mp q)
  have X' : C.K.In (hideAll s.heap [a]) := fun b o e => hga b o (X b o e) fun q => by
    have := X b o e
    rw [q, hol] at this
    exact hKl b o e (Option.some.inj this ▸ hcl)
  have T' : TopRead C.p C.loose C.mg C.mb (hideAll s.heap [a]) := ⟨ns_hide T.g hol hnd, ns_hide T.b hol hnd, (by obtain ⟨mc, h1, h2⟩ := T.nolimit; exact ⟨mc, ns_hide h1 hol hnd, h2⟩), T.builtins, T.free⟩
  generalize hgd : hideAll s.heap [a] = g at X' T' hga
  have F' : Fr g s.heap.objs.size h₁ (fun y => ([p].zip [Value.ref a]).reverse.lookup y) := ⟨hns, fun b o e => hk₁ b o (of_hideAll _ (hgd ▸ e)), by rw [← hgd]; exact Nat.le_of_eq (hideAll_size _ _)⟩
  have N' : News g s.heap.objs.size h₁ [(a, ol)] := fun q hq => by
    obtain rfl := List.mem_singleton.mp hq
    exact ⟨hk₁ _ _ hol, Nat.ne_of_lt (Heap.lt_size hol), by rw [← hgd]; exact hideAll_none _ (.head _)⟩
  show wpAny _ (callerA.deeper (envX qual scope s.heap.objs.size f cdv [])) (execs body (envX qual scope s.heap.objs.size f cdv [])) _ _ _
  generalize hL' : s.heap.objs.size = L' at *
  let F : Fx := { A₀ := callerA, base := g, outer := [], h₀ := g, L := L', env := envX qual scope L' f cdv [], ns := p :: more }
  have hF : FxOK C (callerA.deeper (envX qual scope L' f cdv [])) F :=
    { B := below_caller g, X := X', T := T', hA := rfl, hf := rfl, hl := rfl, hk := hS.kind, hg := rfl, hb := rfl, nd := hS.nd,
      kinds := fun x hx => ⟨(hS.kinds x hx).1, .inl (hS.kinds x hx).2⟩, cinj := fun x y c hx => by cases hx }
  have hst : FSt F (.dat (.list (ns.map .int)) :: more.map fun _ => .undef) [] [(a, ol)] { s with heap := h₁, toks := s.toks + ([p].zip [Value.ref a]).length } := by
    refine ⟨_, [], fun _ => 0, F', by simpa using N', (fun p hp => nomatch hp), (fun p hp => nomatch hp), fun i x sl hi' hs => ?_, fun i j x y ds' es _ _ hi' => ?_, fun x c hc => by cases hc⟩
    · cases i with
      | zero =>
        have hx : p = x := by simpa [F] using hi'
        simp at hs
        subst hs hx
        exact ⟨.ref a, .inl ⟨(hS.kinds p (.head _)).2, by simp⟩, .list (.head _) hcl hdl (ints_rps hi)⟩
      | succ i =>
        simp at hs
        obtain ⟨_, rfl⟩ := hs
        trivial
    · cases i with
      | zero => simp at hi'
      | succ i => simp at hi'
  have hroom' : Room (callerA.deeper (envX qual scope L' f cdv [])) k := by
    have e1 : (callerA.deeper (envX qual scope L' f cdv [])).depth = callerA.depth + 1 := rfl
    have e2 : callerA.depth ≤ 801 := by decide
    have e3 : (callerA.deeper (envX qual scope L' f cdv [])).units = 7 := rfl
    exact ⟨by omega, by omega⟩
  refine wpAny_mono (hb _ F hF rfl rfl rfl hroom' rfl (by show 7 + 200 < 9900; decide) [] _ _ (fun fl s' => retOf fl = .bool true ∧ ∃ Z' ρ', FSt F ρ' [] Z' s' ∧ Fwd [(a, ol)] { s with heap := h₁, toks := s.toks + ([p].zip [Value.ref a]).length } Z' s') hst fun o fl Z' s' q1 q2 q3 => ?_) (fun fl s' q => ?_) fun _ _ x => x.elim
  · cases o with
    | next ρ' => cases q1
    | cont ρ' => cases q1
    | brk ρ' => cases q1
    | ret d' => obtain ⟨v, ρ', rfl, r, q2⟩ := q2; cases q1; exact ⟨r.boolAt, Z', ρ', q2, q3⟩
  · obtain ⟨e, Z', ρ', ⟨m', muts, oa, hI⟩, hz⟩ := q
    show R (.ok (.ret (retOf fl))) s'
    rw [e]
    refine hR s' (fun b o e0 => ?_) hz.same
    by_cases hb : b = a
    · rw [hb, hol] at e0
      obtain rfl := Option.some.inj e0
      rw [hb]
      exact (hI.newsZ (a, ol) (hz.sub _ (.head _))).1
    · exact hI.fr.keep b o (hga b o e0 hb)

theorem FnTop.of (st : PySem.Stmt) (D : DefAt C f (fdParams st) (fdBody st) (fdScope st)) (p : Str) (more gs : List Str) {k : Nat} (hps : (fdParams st).args.map (·.arg) = [p]) (hS : scopeB (fdScope st) (p :: more) gs = true) (hk : k ≤ 100)
    (X : C.K.In s.heap) (T : TopRead C.p C.loose C.mg C.mb s.heap) (hKl : ∀ b o, C.K.lookup b = some o → o.cls ≠ .type "list")
    {a : Addr} {vs : List Value} {ns : List Int} (hl : s.heap.IsList a vs.toArray) (hi : IntsAre vs ns)
    (hb : ∀ A F, Wk C A F k (p :: more) gs → F.outer = [] → ExS C A F (.dat (.list (ns.map .int)) :: more.map fun _ => .undef) (fdBody st) (RetQ (.bool true)))
    {R : Result → Shared → Prop} (hR : ∀ s', (∀ b o, s.heap.get? b = some o → s'.heap.get? b = some o) → (∃ h tk, s' = { s with heap := h, toks := tk }) → R (.ok (.ret (.bool true))) s') :
    codeAny (model C.prog C.w) callerA (.call (.ref f) ⟨[.ref a], []⟩) R s := by
  unfold scopeB at hS
  simp only [Bool.and_eq_true, decide_eq_true_eq, List.all_eq_true, Bool.not_eq_true', beq_iff_eq, bne_iff_ne] at hS
  obtain ⟨⟨⟨⟨⟨⟨h1, h2⟩, h3⟩, h4⟩, h5⟩, h6⟩, h7⟩ := hS
  exact top_plain D more hps ⟨h1, h2, h4, h5, h6, h7⟩ hk X T hKl hl hi (fun A F hF hn hs ho hr hh hu => hb A F ⟨hF, hn, fun x hx => ⟨by show F.env.scope.names.lookup x = _; rw [hs]; exact (h3 x hx).2, (h3 x hx).1⟩, hr, hh, hu⟩ ho) hR
end
end Mine
namespace Mine
open PySem PySem.W PySem.Spec PySem.Calls PyProof.Rows
section
variable {prog : Program} {w : World} {K : Frag} {p : Program} {loose : List Str} {mg mb : Str → Option Value}
theorem DefAt.mk' {f : Addr} {params : Arguments} {body : List PySem.Stmt} {scope : Scope} {name qual : Str} {dV kV doc pm cdv ct oc : Value} {an od : Option Addr} {osl : Array (Option Value)}
    (h1 : K.lookup f = some ⟨oc, od, .func (fnOf name qual params body scope dV kV doc pm an cdv ct), osl⟩) (h2 : codeIn K cdv qual = true)
    (h3 : ∀ vs : List Value, vs.length = params.args.length → bindArgs (fnOf name qual params body scope dV kV doc pm an cdv ct) ⟨vs, []⟩ = pure ((params.args.map (·.arg)).zip vs)) : DefAt ⟨prog, w, K, p, loose, mg, mb⟩ f params body scope :=
  ⟨name, qual, dV, kV, doc, pm, an, cdv, ct, oc, od, osl, h1, h2, h3⟩
theorem Gl.mk {x : Str} {a : Addr} (h : nsIn K mainGlobals x = some (some (.ref a))) : Gl ⟨prog, w, K, p, loose, mg, mb⟩ x a := h
theorem Bi.mk {x : Str} {v : Value} (h : nsIn K mainGlobals x = some none) (h2 : bootBuiltins x = some v) (h3 : x ≠ "__name__") : Bi ⟨prog, w, K, p, loose, mg, mb⟩ x v := ⟨h, h2, h3⟩
end
theorem mem_of_lookupN {K : Frag} : ∀ {b : Addr} {o : Obj}, K.lookup b = some o → (b, o) ∈ K := by
  induction K with
  | nil => intro b o h; cases h
  | cons p r ih =>
    intro b o h
    obtain ⟨a, x⟩ := p
    rw [List.lookup_cons] at h
    split at h
    · rename_i e
      have : b = a := by simpa using e
      subst this
      cases h; exact .head _
    · exact .tail _ (ih h)
theorem noList {K : Frag} (h : K.all (fun p => p.2.cls != .type "list") = true) : ∀ b o, K.lookup b = some o → o.cls ≠ .type "list" := fun b o e => by
  have := List.all_eq_true.mp h _ (mem_of_lookupN e)
  simpa using this
end Mine

namespace Mine
open PySem PySem.W PySem.Spec PySem.Calls PyProof.Rows
local macro_rules | `(tactic| walk_at "init") => `(tactic| ((simp only [List.map_cons, List.map_nil, List.cons_append, List.nil_append, List.append_nil]); (change ExS _ _ _ _ (_ :: _) _)))
local macro_rules | `(tactic| walk_at "var") => `(tactic| with_reducible first | exact Var.here | (refine' Var.there ?h; case h => walk_at "var"))
local macro_rules | `(tactic| walk_at "upd") => `(tactic| with_reducible first | exact Upd.here | (refine' Upd.there ?h; case h => walk_at "upd"))
local macro_rules | `(tactic| walk_at "mem") => `(tactic| with_reducible first | exact List.mem_cons_self | (refine List.mem_cons_of_mem _ ?_; walk_at "mem"))
local macro_rules | `(tactic| walk_at "asgl") => `(tactic| with_reducible first | exact AsgL.nil | (refine' AsgL.cons ?g ?h; (case g => walk_at "upd"); (case h => walk_at "asgl")))
local macro_rules | `(tactic| walk_at "side") => `(tactic| first | omega | decide | assumption | ((simp only [List.length_map, List.length_append, List.length_cons, List.length_nil]); omega))
local macro_rules | `(tactic| walk_at "bin") => `(tactic| first | (with_reducible exact BinR.add) | (with_reducible exact BinR.sub) | ((with_reducible refine BinR.mul ?_); walk_at "side") | ((with_reducible refine BinR.fdiv ?_ ?_) <;> walk_at "side") | ((with_reducible refine BinR.mod ?_); walk_at "side") | ((with_reducible refine' BinR.pow ?p1 ?p2 ?p3 ?p4); (case p4 => first | (simp only [Int.reduceToNat, Int.reducePow]; done) | (simp only [Int.reduceToNat, Int.reducePow]; exact rfl)); (case p1 => decide); (case p2 => decide); (case p3 => decide)) | ((with_reducible refine BinR.addL ?_); walk_at "side") | ((with_reducible refine BinR.addT ?_); walk_at "side"))
local macro_rules | `(tactic| walk_at "cmp") => `(tactic| with_reducible first | exact CmpR.lt | exact CmpR.le | exact CmpR.gt | exact CmpR.ge | exact CmpR.eq_int | exact CmpR.ne_int | exact CmpR.eq_str | exact CmpR.ne_str | exact CmpR.is_none | exact CmpR.is_tup | ((refine CmpR.eq ?_ ?_) <;> walk_at "shp") | ((refine CmpR.ne ?_ ?_) <;> walk_at "shp") | ((refine CmpR.isIn ?_ ?_) <;> walk_at "shp"))
local macro_rules | `(tactic| walk_at "shp1") => `(tactic| with_reducible first | exact Shp.int | exact Shp.bool | exact Shp.none | exact Shp.str (by decide) | assumption | (refine Shp.list ?_; walk_at "shps") | (refine Shp.tuple ?_; walk_at "shps"))
local macro_rules | `(tactic| walk_at "shps") => `(tactic| with_reducible first | exact shp_nil | assumption | (refine' shp_cons ?sa ?sb; (case sa => walk_at "shp1"); (case sb => walk_at "shps")))
local macro_rules | `(tactic| walk_at "shp") => `(tactic| first | assumption | ((with_reducible refine Shp.shaped (n := 5) ?_); walk_at "shp1"))
local macro_rules | `(tactic| walk_at "fn") => `(tactic| fail "no contract")
local macro_rules | `(tactic| walk_at "bifn") => `(tactic| first | (with_reducible exact V.bmax (by assumption)) | (with_reducible exact V.bmin (by assumption)) | ((with_reducible refine bi_len (by first | exact .inl rfl | exact .inr rfl) ?_); walk_at "side") | ((with_reducible refine bi_list (by first | exact .inl rfl | exact .inr rfl) ?_); walk_at "side") | ((with_reducible refine bi_tuple ?_); walk_at "side"))
local macro_rules | `(tactic| walk_at "isi") => `(tactic| with_reducible first | exact V.IsiR.int_int | exact V.IsiR.int_bool | exact V.IsiR.tuple | exact V.IsiR.list | exact V.IsiR.bool_bool)
local macro_rules | `(tactic| walk_at "ev") => `(tactic| first
  | (with_reducible exact EvE.const_int)
  | (with_reducible exact EvE.const_str)
  | (with_reducible exact EvE.const_bool)
  | (with_reducible exact EvE.const_none)
  | ((with_reducible refine' V.var (by assumption) ?h); case h => walk_at "var")
  | ((with_reducible refine' V.bin (by assumption) ?a ?b ?c); (case a => walk_at "ev"); (case b => walk_at "ev"); (case c => walk_at "bin"))
  | ((with_reducible refine' V.cmp (by assumption) ?a ?b ?c); (case a => walk_at "ev"); (case b => walk_at "ev"); (case c => walk_at "cmp"))
  | ((with_reducible refine' V.isi (by assumption) (by walk_at "mem") (by walk_at "bi") (by walk_at "mem") (by walk_at "bi") ?a ?b); (case a => walk_at "ev"); (case b => walk_at "isi"))
  | ((with_reducible refine' V.call (by assumption) (by walk_at "mem") ?g ?f ?a ?b ?c); (case g => walk_at "gl"); (case f => walk_at "isfn"); (case a => walk_at "evs"); (case b => walk_at "fn"); (case c => decide))
  | ((with_reducible refine' V.callB (by assumption) (by walk_at "mem") ?g ?a ?b); (case g => walk_at "bi"); (case a => walk_at "evs"); (case b => walk_at "bifn"))
  | ((with_reducible refine' V.callT (by assumption) (by walk_at "mem") ?g ?a ?b); (case g => walk_at "bi"); (case a => walk_at "evs"); (case b => walk_at "bifn"))
  | ((with_reducible refine' V.tuple (by assumption) ?a ?z); (case a => walk_at "evs"); (case z => walk_at "side"))
  | ((with_reducible refine' V.list (by assumption) ?a ?z); (case a => walk_at "evs"); (case z => walk_at "side"))
  | ((with_reducible refine' V.neg (by assumption) ?a); (case a => walk_at "ev"))
  | ((with_reducible refine' V.not (by assumption) ?a); (case a => walk_at "ev"))
  | ((with_reducible refine' V.and (by assumption) ?a ?b); (case a => walk_at "ev"); (case b => intro _; walk_at "ev"))
  | ((with_reducible refine' V.or (by assumption) ?a ?b); (case a => walk_at "ev"); (case b => intro _; walk_at "ev"))
  | ((with_reducible refine' EvE.bool_one ?a); (case a => walk_at "ev"))
  | ((with_reducible refine' V.ownItem (by assumption) ?v ?a ?b ?c ?d); (case v => walk_at "var"); (case a => walk_at "ev"); (case b => walk_at "side"); (case c => walk_at "idx"); (case d => walk_at "get"))
  | ((with_reducible refine' V.item (by assumption) ?a ?b ?c ?d ?e ?f); (case a => walk_at "ev"); (case b => walk_at "ev"); (case c => first | exact .inl rfl | exact .inr rfl); (case d => walk_at "side"); (case e => walk_at "idx"); (case f => walk_at "get")))
local macro_rules | `(tactic| walk_at "idx") => `(tactic| first | rfl | (refine idx_pos ?_ ?_ <;> walk_at "side") | (refine idx_neg ?_ ?_ <;> walk_at "side"))
local macro_rules | `(tactic| walk_at "get") => `(tactic| first | rfl | assumption)
local macro_rules | `(tactic| walk_at "evs") => `(tactic| first
  | (with_reducible exact EvEs.nil)
  | ((with_reducible refine' V.cons (by assumption) ?a ?b); (case a => walk_at "ev"); (case b => walk_at "evs")))
local macro_rules | `(tactic| walk_at "evb") => `(tactic| first
  | ((with_reducible refine' V.cmpB (by assumption) ?a ?b ?c); (case a => walk_at "ev"); (case b => walk_at "ev"); (case c => walk_at "cmp"))
  | ((with_reducible refine' EvB.not ?a); (case a => walk_at "evb"))
  | (with_reducible exact EvB.and_nil)
  | (with_reducible exact EvB.or_nil)
  | ((with_reducible refine' V.andB (by assumption) ?a ?b); (case a => walk_at "evb"); (case b => intro _; walk_at "evb"))
  | ((with_reducible refine' V.orB (by assumption) ?a ?b); (case a => walk_at "evb"); (case b => intro _; walk_at "evb"))
  | ((with_reducible refine' V.plainB (by assumption) ?a); (case a => walk_at "ev")))
local macro_rules | `(tactic| walk_at "q") => `(tactic| with_reducible first
  | exact RetQ.next
  | (refine RetQ.ret ?_; try (first | with_reducible rfl | simp only [Bool.and_true, Bool.not_false, Bool.and_self, Bool.true_and]))
  | (refine Then.ret ?_; walk_at "q")
  | (refine Then.cont ?_; walk_at "q")
  | (refine Then.next ?_; try (walk_at "nil"))
  | (refine LoopQ.ret ?_; walk_at "q")
  | (refine LoopQ.next ?_)
  | (refine LoopQ.cont ?_))
local macro_rules | `(tactic| walk_at "nil") => `(tactic| with_reducible (refine ExS.nil ?_; walk_at "q"))
local macro_rules | `(tactic| walk_at "assign") => `(tactic| ((with_reducible refine' ExS.cons (V.assign (by assumption) ?a ?b ?c)); (case a => walk_at "ev"); (case b => walk_at "upd"); walk_at "q"))
local macro_rules | `(tactic| walk_at "unpack") => `(tactic| ((with_reducible refine' ExS.cons (V.unpack (by assumption) ?a ?b ?c)); (case a => walk_at "ev"); (case b => walk_at "asgl"); walk_at "q"))
local macro_rules | `(tactic| walk_at "own") => `(tactic| ((with_reducible refine' ExS.cons (V.assignOwn (by assumption) ?a ?b ?z ?c)); (case a => walk_at "evs"); (case b => walk_at "upd"); (case z => walk_at "side"); walk_at "q"))
local macro_rules | `(tactic| walk_at "append") => `(tactic| ((with_reducible refine' ExS.cons (V.append (by assumption) ?v ?a ?b ?z ?c)); (case v => walk_at "var"); (case a => walk_at "ev"); (case b => walk_at "upd"); (case z => walk_at "side"); walk_at "q"))
local macro_rules | `(tactic| walk_at "ret") => `(tactic| ((with_reducible refine' ExS.cons (Ex1.ret ?a ?b)); (case a => walk_at "ev"); walk_at "q"))
local macro_rules | `(tactic| walk_at "cont") => `(tactic| ((with_reducible refine ExS.cons (Ex1.continue_ ?_)); walk_at "q"))
local macro_rules | `(tactic| walk_at "ite") => `(tactic| ((with_reducible refine' ExS.cons (Ex1.ite ?t ?x ?y)); (case t => walk_at "evb")))
abbrev pw := PySem.Challenge.pw_uf050026_01
abbrev Df (C : Cx) (f : Addr) (st : PySem.Stmt) : Prop := DefAt C f (fdParams st) (fdBody st) (fdScope st)
/-- the program's own names, as the top leaves them -/
structure PG (C : Cx) where
  a_gone : Addr
  g_gone : Gl C "gone" a_gone
  d_gone : Df C a_gone (stmtAt pw 1)
  a_shown_then : Addr
  g_shown_then : Gl C "shown_then" a_shown_then
  d_shown_then : Df C a_shown_then (stmtAt pw 2)
  a_l_cell_at : Addr
  g_l_cell_at : Gl C "_law_cell_at" a_l_cell_at
  d_l_cell_at : Df C a_l_cell_at (stmtAt pw 4)
  a_l_mixed : Addr
  g_l_mixed : Gl C "_law_mixed" a_l_mixed
  d_l_mixed : Df C a_l_mixed (stmtAt pw 5)
  a_l_whole : Addr
  g_l_whole : Gl C "_law_whole" a_l_whole
  d_l_whole : Df C a_l_whole (stmtAt pw 6)
  a_l_size_by : Addr
  g_l_size_by : Gl C "_law_size_by" a_l_size_by
  d_l_size_by : Df C a_l_size_by (stmtAt pw 7)
  a_l_most_by : Addr
  g_l_most_by : Gl C "_law_most_by" a_l_most_by
  d_l_most_by : Df C a_l_most_by (stmtAt pw 8)
  a_law : Addr
  g_law : Gl C "law" a_law
  d_law : Df C a_law (stmtAt pw 9)
  b_len : Bi C "len" (.builtin "len")
  b_isinstance : Bi C "isinstance" (.builtin "isinstance")
  b_int : Bi C "int" (.type "int")
  b_bool : Bi C "bool" (.type "bool")
local macro_rules | `(tactic| walk_at "gl") => `(tactic| with_reducible first | exact (PG.g_gone ‹PG _›) | exact (PG.g_shown_then ‹PG _›) | exact (PG.g_l_cell_at ‹PG _›) | exact (PG.g_l_mixed ‹PG _›) | exact (PG.g_l_whole ‹PG _›) | exact (PG.g_l_size_by ‹PG _›) | exact (PG.g_l_most_by ‹PG _›) | exact (PG.g_law ‹PG _›))
local macro_rules | `(tactic| walk_at "isfn") => `(tactic| with_reducible first | exact (PG.d_gone ‹PG _›).isFn | exact (PG.d_shown_then ‹PG _›).isFn | exact (PG.d_l_cell_at ‹PG _›).isFn | exact (PG.d_l_mixed ‹PG _›).isFn | exact (PG.d_l_whole ‹PG _›).isFn | exact (PG.d_l_size_by ‹PG _›).isFn | exact (PG.d_l_most_by ‹PG _›).isFn | exact (PG.d_law ‹PG _›).isFn)
local macro_rules | `(tactic| walk_at "bi") => `(tactic| with_reducible first | exact (PG.b_len ‹PG _›) | exact (PG.b_isinstance ‹PG _›) | exact (PG.b_int ‹PG _›) | exact (PG.b_bool ‹PG _›))
/-! ## Plain functions: what the law builds -/
def scr (ns : List Int) : PyData := .list (ns.map .int)
def cellAt (ns : List Int) (k : Int) : Int := ns.getD k.toNat 0
def mixCell (ns : List Int) (k : Int) : Int := if ns.length = 0 then 0 else ns.getD (k % (ns.length : Int)).toNat 0
def mixNum (ns : List Int) (k : Int) : Int := (mixCell ns k + 7919 * k) * 48271 % 2147483647
def mixed (ns : List Int) (k : Int) : Int := mixNum ns k * mixNum ns k % 2147483647
theorem mixNum_bd (ns : List Int) (k : Int) : 0 ≤ mixNum ns k ∧ mixNum ns k < 2147483647 := by unfold mixNum; omega
theorem mixed_bd (ns : List Int) (k : Int) : 0 ≤ mixed ns k ∧ mixed ns k < 2147483647 := by unfold mixed; omega
def sizes : List Int := [2, 10, 100, 1000, 100000, 1000000000000, 7, 60]
def sizeBy (n : Int) : Int := if n % 4 = 3 then 2 + n * n % 999999999999 else sizes.getD (n / 4 % 8).toNat 0
def mosts : List Int := [0, 1, 3, 10, 40, 1000000000000, 100]
def mostBy (c : Int) : Int := if c % 8 = 7 then c / 8 % 1000000000001 else mosts.getD (c % 8).toNat 0
theorem getD_mem {α : Type} {l : List α} {i : Nat} {d : α} (h : i < l.length) : l.getD i d ∈ l := by
  rw [List.getD_eq_getElem?_getD, List.getElem?_eq_getElem h]; exact List.getElem_mem h
theorem sizeBy_bd (n : Int) : 2 ≤ sizeBy n ∧ sizeBy n ≤ 1000000000000 := by
  unfold sizeBy
  split
  · omega
  · have h : (n / 4 % 8).toNat < sizes.length := by show _ < 8; omega
    have := getD_mem (d := (0 : Int)) h
    have all : ∀ x ∈ sizes, 2 ≤ x ∧ x ≤ 1000000000000 := by decide
    exact all _ this
theorem mostBy_bd (c : Int) : 0 ≤ mostBy c ∧ mostBy c ≤ 1000000000000 := by
  unfold mostBy
  split
  · omega
  · have h : (c % 8).toNat < mosts.length := by show _ < 7; omega
    have := getD_mem (d := (0 : Int)) h
    have all : ∀ x ∈ mosts, 0 ≤ x ∧ x ≤ 1000000000000 := by decide
    exact all _ this
theorem ints_get {l : List Int} {i : Nat} (h : i < l.length) : (l.map PyData.int)[i]? = some (.int (l.getD i 0)) := by
  rw [List.getElem?_map, List.getElem?_eq_getElem h, List.getD_eq_getElem?_getD, List.getElem?_eq_getElem h]; rfl

/-! ## The law's helpers -/
section
variable {C : Cx} (G : PG C)

theorem cell_at_ok {ns : List Int} {k : Int} (hz : ns.length ≤ 2 ^ 20) (h0 : 0 ≤ k) : FnOK C G.a_l_cell_at 1 [scr ns, .int k] (.int (cellAt ns k)) := by
  refine FnOK.of (stmtAt pw 4) ["_law_script", "_law_k"] ["len"] _ [] G.d_l_cell_at rfl rfl (by decide +kernel) fun A F W => ?_
  walk_at "init"
  unfold scr
  walk_at "ite"
  case x =>
    intro hb
    simp only [List.length_map, decide_eq_true_eq] at hb
    refine ExS.cons (Ex1.ret ?_ (.ret (.ret rfl)))
    refine V.item W (ds := ns.map .int) ?_ ?_ (.inl rfl) (by rw [List.length_map]; omega) (idx_pos h0 (by rw [List.length_map]; omega)) (ints_get (by omega))
    · walk_at "ev"
    · walk_at "ev"
  case y =>
    intro hb
    simp only [List.length_map, decide_eq_false_iff_not] at hb
    walk_at "nil"
    walk_at "ret"
    unfold cellAt
    rw [List.getD_eq_getElem?_getD, List.getElem?_eq_none (by omega)]; rfl
end

section
variable {C : Cx} (G : PG C)

theorem mixed_ok {ns : List Int} {k : Int} (hz : ns.length ≤ 2 ^ 20) (h0 : 0 ≤ k) (h1 : k < 2 ^ 40) : FnOK C G.a_l_mixed 1 [scr ns, .int k] (.int (mixed ns k)) := by
  refine FnOK.of (stmtAt pw 5) ["_law_script", "_law_k", "_law_cell", "_law_number"] ["len"] _ ["_law_cell", "_law_number"] G.d_l_mixed rfl rfl (by decide +kernel) fun A F W => ?_
  walk_at "init"
  unfold scr
  have hm := mixNum_bd ns k
  have rest : ExS C A F [.dat (.list (ns.map .int)), .dat (.int k), .dat (.int (mixCell ns k)), .undef] (fdBody (stmtAt pw 5)).tail.tail (RetQ (.int (mixed ns k))) := by
    change ExS _ _ _ _ (_ :: _) _
    walk_at "assign"
    change ExS C A F [_, _, _, .dat (.int (mixNum ns k))] _ _
    walk_at "ret"
    rfl
  walk_at "assign"
  walk_at "ite"
  case x =>
    intro hb
    simp only [List.length_map, decide_eq_true_eq] at hb
    have h2 : 0 < (ns.length : Int) := by omega
    have h3 : 0 ≤ k % (ns.length : Int) := Int.emod_nonneg _ (by omega)
    have h4 : k % (ns.length : Int) < ns.length := Int.emod_lt_of_pos _ h2
    refine' ExS.cons (V.assign W (d := .int (mixCell ns k)) ?a2 ?b2 ?c2)
    case a2 =>
      refine V.item W (ds := ns.map .int) (i := k % (ns.length : Int)) ?_ ?_ (.inl rfl) (by rw [List.length_map]; omega) (idx_pos h3 (by rw [List.length_map]; exact h4)) ?_
      · walk_at "ev"
      · refine' V.bin W ?p1 ?q1 (d2 := .int (ns.length : Int)) ?r1
        case p1 => walk_at "ev"
        case q1 =>
          have := List.length_map (as := ns) PyData.int
          rw [← this]
          walk_at "ev"
        case r1 => exact BinR.mod h2
      · rw [ints_get (by omega)]
        unfold mixCell
        rw [if_neg (by omega)]
    case b2 => walk_at "upd"
    case c2 => exact .next (.nil (.next rest))
  case y =>
    intro hb
    simp only [List.length_map, decide_eq_false_iff_not] at hb
    have : mixCell ns k = 0 := by unfold mixCell; rw [if_pos (by omega)]
    rw [this] at rest
    exact .nil (.next rest)
end

section
variable {C : Cx} (G : PG C)
theorem whole_ok {i : Int} : FnOK C G.a_l_whole 1 [.int i] (.bool true) := by
  refine FnOK.of (stmtAt pw 6) ["_law_found"] ["isinstance", "int", "bool"] _ [] G.d_l_whole rfl rfl (by decide +kernel) fun A F W => ?_
  walk_at "init"
  walk_at "ret"

theorem size_by_ok {n : Int} (h0 : 0 ≤ n) (h1 : n < 2 ^ 31) : FnOK C G.a_l_size_by 1 [.int n] (.int (sizeBy n)) := by
  refine FnOK.of (stmtAt pw 7) ["_law_number"] [] _ [] G.d_l_size_by rfl rfl (by decide +kernel) fun A F W => ?_
  walk_at "init"
  walk_at "ite"
  case x =>
    intro hb
    simp only [List.length_map, decide_eq_true_eq] at hb
    walk_at "ret"
    unfold sizeBy; rw [if_pos hb]; simp only [Int.reduceSub]
  case y =>
    intro hb
    simp only [List.length_map, decide_eq_false_iff_not] at hb
    walk_at "nil"
    with_reducible refine' ExS.cons (Ex1.ret (d := .int (sizeBy n)) ?a3 ?b3)
    case b3 => walk_at "q"
    with_reducible refine V.item W (ds := sizes.map .int) (d := .list (sizes.map .int)) (i := n / 4 % 8) (j := (n / 4 % 8).toNat) ?_ ?_ (.inl rfl) ?_ ?_ ?_
    · show EvE C A _ F.env _ (.list [.int 2, .int 10, .int 100, .int 1000, .int 100000, .int 1000000000000, .int 7, .int 60])
      walk_at "ev"
    · walk_at "ev"
    · decide
    · exact idx_pos (by omega) (by show _ < (8 : Int); omega)
    · rw [ints_get (by show _ < 8; omega)]
      unfold sizeBy; rw [if_neg hb]

theorem most_by_ok {c : Int} : FnOK C G.a_l_most_by 1 [.int c] (.int (mostBy c)) := by
  refine FnOK.of (stmtAt pw 8) ["_law_cell"] [] _ [] G.d_l_most_by rfl rfl (by decide +kernel) fun A F W => ?_
  walk_at "init"
  walk_at "ite"
  case x =>
    intro hb
    simp only [List.length_map, decide_eq_true_eq] at hb
    walk_at "ret"
    unfold mostBy; rw [if_pos hb]; simp only [Int.reduceAdd]
  case y =>
    intro hb
    simp only [List.length_map, decide_eq_false_iff_not] at hb
    walk_at "nil"
    with_reducible refine' ExS.cons (Ex1.ret (d := .int (mostBy c)) ?a3 ?b3)
    case b3 => walk_at "q"
    with_reducible refine V.item W (ds := mosts.map .int) (d := .list (mosts.map .int)) (i := c % 8) (j := (c % 8).toNat) ?_ ?_ (.inl rfl) ?_ ?_ ?_
    · show EvE C A _ F.env _ (.list [.int 0, .int 1, .int 3, .int 10, .int 40, .int 1000000000000, .int 100])
      walk_at "ev"
    · walk_at "ev"
    · decide
    · exact idx_pos (by omega) (by show _ < (7 : Int); omega)
    · rw [ints_get (by show _ < 7; omega)]
      unfold mostBy; rw [if_neg hb]
end

section
variable {C : Cx} (G : PG C)
theorem gone_ok {size one other : Int} (h : 0 < size) : FnOK C G.a_gone 1 [.int size, .int one, .int other] (.int ((other - one) % size)) := by
  refine FnOK.of (stmtAt pw 1) ["size", "one", "other"] [] _ [] G.d_gone rfl rfl (by decide +kernel) fun A F W => ?_
  walk_at "init"
  walk_at "ret"
theorem shown_then_ok {size value use : Int} (h : 0 < size) : FnOK C G.a_shown_then 1 [.int size, .int value, .int use] (.int ((value + use) % size)) := by
  refine FnOK.of (stmtAt pw 2) ["size", "value", "use"] [] _ [] G.d_shown_then rfl rfl (by decide +kernel) fun A F W => ?_
  walk_at "init"
  walk_at "ret"
end

def lSize (ns : List Int) : Int := sizeBy (mixed ns 2)
def lOne (ns : List Int) : Int := cellAt ns 0 % lSize ns
def lPick (ns : List Int) : List Int := [lOne ns, 0, lSize ns - 1]
def lOther (ns : List Int) : Int := if cellAt ns 2 % 6 = 1 then (lPick ns).getD (cellAt ns 2 / 6 % 3).toNat 0 else cellAt ns 1 * 48271 % lSize ns
def lUse0 (ns : List Int) : Int := cellAt ns 3 % 1000000000000001
def lUse (ns : List Int) : Int := if cellAt ns 4 % 2 = 1 then lUse0 ns % (3 * lSize ns) else lUse0 ns
theorem lSize_bd (ns : List Int) : 2 ≤ lSize ns ∧ lSize ns ≤ 1000000000000 := sizeBy_bd _
theorem lOne_bd (ns : List Int) : 0 ≤ lOne ns ∧ lOne ns < lSize ns := by
  have := lSize_bd ns
  exact ⟨Int.emod_nonneg _ (by omega), Int.emod_lt_of_pos _ (by omega)⟩
theorem lOther_bd (ns : List Int) : 0 ≤ lOther ns ∧ lOther ns < lSize ns := by
  have h := lSize_bd ns
  have h1 := lOne_bd ns
  unfold lOther
  split
  · have h2 : (cellAt ns 2 / 6 % 3).toNat < (lPick ns).length := by show _ < 3; omega
    have := getD_mem (d := (0 : Int)) h2
    unfold lPick at this ⊢
    simp only [List.mem_cons, List.not_mem_nil, or_false] at this
    omega
  · exact ⟨Int.emod_nonneg _ (by omega), Int.emod_lt_of_pos _ (by omega)⟩
theorem back_eq {one other size : Int} (h : 0 < size) (h0 : 0 ≤ other) (h1 : other < size) : (one + (other - one) % size) % size = other := by
  rw [Int.add_emod, Int.emod_emod, ← Int.add_emod, show one + (other - one) = other by omega]
  exact Int.emod_eq_of_lt h0 h1
local macro_rules | `(tactic| walk_at "fn") => `(tactic| first
  | ((with_reducible refine' cell_at_ok _ ?h1 ?h2) <;> walk_at "side")
  | ((with_reducible refine' mixed_ok _ ?h1 ?h2 ?h3) <;> walk_at "side")
  | ((with_reducible refine' size_by_ok _ ?h1 ?h2) <;> walk_at "side")
  | ((with_reducible refine' gone_ok _ ?h1) <;> walk_at "side")
  | ((with_reducible refine' shown_then_ok _ ?h1) <;> walk_at "side")
  | (with_reducible exact whole_ok _))
section
variable {C : Cx} (G : PG C)
include G
theorem law_body {ns : List Int} (hz : ns.length ≤ 63) {A : Around} {F : Fx}
    (W : Wk C A F 9 ["_law_script", "_law_size", "_law_one", "_law_other", "_law_found", "_law_use", "_law_told"] ["_law_cell_at", "_law_mixed", "_law_size_by", "gone", "shown_then", "_law_whole"]) :
    ExS C A F [.dat (.list (ns.map .int)), .undef, .undef, .undef, .undef, .undef, .undef] (fdBody (stmtAt pw 9)) (RetQ (.bool true)) := by
  change ExS _ _ _ _ (_ :: _) _
  change ExS C A F [.dat (scr ns), _, _, _, _, _, _] _ _
  have hz' : ns.length ≤ 2 ^ 20 := by omega
  have hs := lSize_bd ns
  have h1 := lOne_bd ns
  have ho := lOther_bd ns
  have hm := mixed_bd ns 2
  have hback := back_eq (one := lOne ns) (by omega : 0 < lSize ns) ho.1 ho.2
  have step3 : ExS C A F [.dat (scr ns), .dat (.int (lSize ns)), .dat (.int (lOne ns)), .dat (.int (lOther ns)), .dat (.int ((lOther ns - lOne ns) % lSize ns)), .dat (.int (lUse ns)), .undef] (fdBody (stmtAt pw 9)).tail.tail.tail.tail.tail.tail.tail.tail (RetQ (.bool true)) := by
    change ExS _ _ _ _ (_ :: _) _
    walk_at "assign"
    rw [hback]
    walk_at "ret"
    rw [Shp.refl (n := 5) (by walk_at "shp1")]
  have step2 : ExS C A F [.dat (scr ns), .dat (.int (lSize ns)), .dat (.int (lOne ns)), .dat (.int (lOther ns)), .undef, .undef, .undef] (fdBody (stmtAt pw 9)).tail.tail.tail.tail (RetQ (.bool true)) := by
    change ExS _ _ _ _ (_ :: _) _
    walk_at "assign"
    have f0 : 0 ≤ (lOther ns - lOne ns) % lSize ns := Int.emod_nonneg _ (by omega)
    have f1 : (lOther ns - lOne ns) % lSize ns < lSize ns := Int.emod_lt_of_pos _ (by omega)
    walk_at "ite"
    case x =>
      intro hb
      simp [hback, f0, f1, Int.not_lt.mpr f0] at hb
      omega
    case y =>
      intro _
      walk_at "nil"
      walk_at "assign"
      walk_at "ite"
      case x =>
        intro hb; simp only [decide_eq_true_eq] at hb
        have e : lUse ns = cellAt ns 3 % (1000000000000000 + 1) % (3 * lSize ns) := by unfold lUse lUse0; rw [if_pos hb]; rfl
        rw [e] at step3
        walk_at "assign"
        exact step3
      case y =>
        intro hb; simp only [decide_eq_false_iff_not] at hb
        have e : lUse ns = cellAt ns 3 % (1000000000000000 + 1) := by unfold lUse lUse0; rw [if_neg hb]; rfl
        rw [e] at step3
        walk_at "nil"
        exact step3
  walk_at "assign"
  change ExS C A F [_, .dat (.int (lSize ns)), _, _, _, _, _] _ _
  walk_at "assign"
  change ExS C A F [_, _, .dat (.int (lOne ns)), _, _, _, _] _ _
  walk_at "assign"
  walk_at "ite"
  case x =>
    intro hb; simp only [decide_eq_true_eq] at hb
    with_reducible refine' ExS.cons (V.assign W (d := .int (lOther ns)) ?a3 ?b3 ?c3)
    case b3 => walk_at "upd"
    case a3 =>
      with_reducible refine V.item W (ds := (lPick ns).map .int) (d := .list ((lPick ns).map .int)) (i := cellAt ns 2 / 6 % 3) (j := (cellAt ns 2 / 6 % 3).toNat) ?_ ?_ (.inl rfl) ?_ ?_ ?_
      · show EvE C A _ F.env _ (.list [.int (lOne ns), .int 0, .int (lSize ns - 1)])
        walk_at "ev"
      · walk_at "ev"
      · show (3 : Nat) ≤ 2 ^ 40; decide
      · exact idx_pos (by omega) (by show _ < (3 : Int); omega)
      · rw [ints_get (by show _ < 3; omega)]
        unfold lOther; rw [if_pos hb]
    case c3 =>
      walk_at "q"
      exact step2
  case y =>
    intro hb; simp only [decide_eq_false_iff_not] at hb
    have e : lOther ns = cellAt ns 1 * 48271 % lSize ns := by unfold lOther; rw [if_neg hb]
    rw [e] at step2
    walk_at "nil"
    exact step2
end
-- LAW LOCALS: ["_law_size", "_law_one", "_law_other", "_law_found", "_law_use", "_law_told"]
-- LAW GLOBALS: ["_law_cell_at", "_law_mixed", "_law_size_by", "gone", "shown_then", "_law_whole"]

end Mine
namespace Mine
open PySem PySem.W PySem.Spec PySem.Calls PyProof.Rows
theorem law_go {prog : Program} {w : World} {K : Frag} {p : Program} {loose : List Str} {mg mb : Str → Option Value} {s : Shared} (X : K.In s.heap) (T : TopRead p loose mg mb s.heap) (G : PG ⟨prog, w, K, p, loose, mg, mb⟩) {f : Addr} (hf : Value.ref G.a_law = Value.ref f)
    (hKl : ∀ b o, K.lookup b = some o → o.cls ≠ .type "list") {a : Addr} {vs : List Value} {ns : List Int} (hl : s.heap.IsList a vs.toArray) (hi : IntsAre vs ns) (hz : ns.length ≤ 63)
    {R : Result → Shared → Prop} (hR : ∀ s', (∀ b o, s.heap.get? b = some o → s'.heap.get? b = some o) → (∃ h tk, s' = { s with heap := h, toks := tk }) → R (.ok (.ret (.bool true))) s') :
    codeAny (model prog w) callerA (.call (.ref f) ⟨[.ref a], []⟩) R s := by
  rw [← hf]
  refine FnTop.of (C := ⟨prog, w, K, p, loose, mg, mb⟩) (stmtAt pw 9) G.d_law "_law_script" ["_law_size", "_law_one", "_law_other", "_law_found", "_law_use", "_law_told"] ["_law_cell_at", "_law_mixed", "_law_size_by", "gone", "shown_then", "_law_whole"] (k := 9) rfl (by decide +kernel) (by decide) X T hKl hl hi (fun A F W _ => ?_) hR
  exact law_body G hz W
set_option maxHeartbeats 8000000 in
open_top hd for PySem.Challenge.rw_uf050026_01
end Mine

open PySem PySem.W PyProof.Rows in
set_option maxHeartbeats 8000000 in
theorem PySem.Challenge.cw_uf050026_01_holds : PySem.Challenge.rw_uf050026_01.Holds := by
  refine Mine.hd ?_
  k_fill
  intro w s₀ s₁ mg mb G Y fa o pm cd doc dV kV ho hd hcd hD hmg hg args vals as hpre hlay hrd hwl hlo
  have KX := kIn_of Y
  refine Ground.open G ?_
  intro T B D TE TW
  wrow_args hpre hlay hrd hwl hlo
  refine enter_call ?_
  refine codeAny_mono ?_ (fun _ _ g => GoodW.toG g)
  clear hcd hd hD
  rename IntsAre _ _ => hI
  rename Heap.IsList _ _ _ => hL
  rename (¬ ((63 : Nat) : Int) < _) => h63
  replace hmg : mg (PySem.Str.ofString "law") = some (.ref fa) := hmg
  refine' Mine.law_go KX (topRead_of T) (Mine.PG.mk 21 ?g_gone ?d_gone 28 ?g_shown_then ?d_shown_then 35 ?g_l_cell_at ?d_l_cell_at 42 ?g_l_mixed ?d_l_mixed 49 ?g_l_whole ?d_l_whole 56 ?g_l_size_by ?d_l_size_by 63 ?g_l_most_by ?d_l_most_by 70 ?g_law ?d_law ?b_len ?b_isinstance ?b_int ?b_bool) ?fa ?hKl hL hI ?h63 ?hR
  case g_gone => exact Mine.Gl.mk (by k_is)
  case g_shown_then => exact Mine.Gl.mk (by k_is)
  case g_l_cell_at => exact Mine.Gl.mk (by k_is)
  case g_l_mixed => exact Mine.Gl.mk (by k_is)
  case g_l_whole => exact Mine.Gl.mk (by k_is)
  case g_l_size_by => exact Mine.Gl.mk (by k_is)
  case g_l_most_by => exact Mine.Gl.mk (by k_is)
  case g_law => exact Mine.Gl.mk (by k_is)
  case b_len => exact Mine.Bi.mk (by k_is) (by decide +kernel) (by decide)
  case b_isinstance => exact Mine.Bi.mk (by k_is) (by decide +kernel) (by decide)
  case b_int => exact Mine.Bi.mk (by k_is) (by decide +kernel) (by decide)
  case b_bool => exact Mine.Bi.mk (by k_is) (by decide +kernel) (by decide)
  case d_gone => exact Mine.DefAt.mk' (by with_unfolding_all rfl) (by kernel_rfl) (fun vs h => match vs, h with | [_, _, _], _ => by with_unfolding_all rfl)
  case d_shown_then => exact Mine.DefAt.mk' (by with_unfolding_all rfl) (by kernel_rfl) (fun vs h => match vs, h with | [_, _, _], _ => by with_unfolding_all rfl)
  case d_l_cell_at => exact Mine.DefAt.mk' (by with_unfolding_all rfl) (by kernel_rfl) (fun vs h => match vs, h with | [_, _], _ => by with_unfolding_all rfl)
  case d_l_mixed => exact Mine.DefAt.mk' (by with_unfolding_all rfl) (by kernel_rfl) (fun vs h => match vs, h with | [_, _], _ => by with_unfolding_all rfl)
  case d_l_whole => exact Mine.DefAt.mk' (by with_unfolding_all rfl) (by kernel_rfl) (fun vs h => match vs, h with | [_], _ => by with_unfolding_all rfl)
  case d_l_size_by => exact Mine.DefAt.mk' (by with_unfolding_all rfl) (by kernel_rfl) (fun vs h => match vs, h with | [_], _ => by with_unfolding_all rfl)
  case d_l_most_by => exact Mine.DefAt.mk' (by with_unfolding_all rfl) (by kernel_rfl) (fun vs h => match vs, h with | [_], _ => by with_unfolding_all rfl)
  case d_law => exact Mine.DefAt.mk' (by with_unfolding_all rfl) (by kernel_rfl) (fun vs h => match vs, h with | [_], _ => by with_unfolding_all rfl)
  case fa => exact (Option.some.inj ((mg_of KX T.g (by k_is)).symm.trans hmg))
  case hKl => exact Mine.noList (by kernel_rfl)
  case h63 => omega
  case hR =>
    intro s' hk hs
    obtain ⟨h', tk, rfl⟩ := hs
    exact ⟨.inl ⟨_, _, _, rfl, fun _ => rfl, .bool true, postW_of (r := PySem.Challenge.rw_uf050026_01.row.toRowW) rfl (w_eq_bool (w_res rfl) w_lit) rfl, fun _ => ⟨by simp, by simp⟩⟩, hk, rfl, hg⟩
