import PyProof.Rows.All
import Wide.All
import OpenK.AllK
import Wide.FinOn
import KE.KSortTup
import PySem.Challenge.RW_uf050026_03
set_option maxRecDepth 100000
set_option linter.unusedVariables false
set_option linter.unusedSimpArgs false
set_option Elab.async false
set_option compiler.extract_closed false
namespace Mine
open PySem PySem.W PySem.Spec PySem.Calls PyProof.Rows

/-! ## Data over a ledger of frozen objects -/
noncomputable abbrev Led := List (Addr × Obj)
/-- an exception of a class of the program's own, seen as data -/
noncomputable abbrev excD (c : Addr) : PyData := .dict [(.none, .int (Int.ofNat c))]

mutual
inductive Rp (Z : Led) : Value → PyData → Prop
  | none : Rp Z .none .none
  | bool (b : Bool) : Rp Z (.bool b) (.bool b)
  | int (i : Int) (t : Tok) : Rp Z (.int i t) (.int i)
  | str (x : Str) (t : Tok) : Rp Z (.str x t) (.str x)
  | tuple {a : Addr} {o : Obj} {vs : List Value} {n : Nat} {ds : List PyData} : (a, o) ∈ Z → o.cls = .type "tuple" → o.data = .seq vs.toArray n → Rps Z vs ds → Rp Z (.ref a) (.tuple ds)
  | list {a : Addr} {o : Obj} {vs : List Value} {n : Nat} {ds : List PyData} : (a, o) ∈ Z → o.cls = .type "list" → o.data = .seq vs.toArray n → Rps Z vs ds → Rp Z (.ref a) (.list ds)
  | exc {a : Addr} {o : Obj} {c : Addr} : (a, o) ∈ Z → o.cls = .ref c → Rp Z (.ref a) (excD c)
inductive Rps (Z : Led) : List Value → List PyData → Prop
  | nil : Rps Z [] []
  | cons {v : Value} {vs : List Value} {d : PyData} {ds : List PyData} : Rp Z v d → Rps Z vs ds → Rps Z (v :: vs) (d :: ds)
end

mutual
theorem Rp.mono {Z Z' : Led} (hs : ∀ p ∈ Z, p ∈ Z') : ∀ {v : Value} {d : PyData}, Rp Z v d → Rp Z' v d
  | _, _, .none => .none
  | _, _, .bool b => .bool b
  | _, _, .int i t => .int i t
  | _, _, .str x t => .str x t
  | _, _, .tuple h a b r => .tuple (hs _ h) a b (Rps.mono hs r)
  | _, _, .list h a b r => .list (hs _ h) a b (Rps.mono hs r)
  | _, _, .exc h a => .exc (hs _ h) a
theorem Rps.mono {Z Z' : Led} (hs : ∀ p ∈ Z, p ∈ Z') : ∀ {vs : List Value} {ds : List PyData}, Rps Z vs ds → Rps Z' vs ds
  | _, _, .nil => .nil
  | _, _, .cons h r => .cons (Rp.mono hs h) (Rps.mono hs r)
end

section
variable {Z : Led} {v : Value} {d : PyData} {vs ws : List Value} {ds es : List PyData}
theorem Rps.length (h : Rps Z vs ds) : vs.length = ds.length := by
  induction vs generalizing ds with
  | nil => cases h; rfl
  | cons v vs ih => cases h with | cons _ r => simp [ih r]
theorem Rps.append (h : Rps Z vs ds) (k : Rps Z ws es) : Rps Z (vs ++ ws) (ds ++ es) := by
  induction vs generalizing ds with
  | nil => cases h; exact k
  | cons v vs ih => cases h with | cons h r => exact .cons h (ih r)
theorem Rps.one (h : Rp Z v d) : Rps Z [v] [d] := .cons h .nil
theorem Rps.get (h : Rps Z vs ds) {k : Nat} (hk : ds[k]? = some d) : ∃ v, vs[k]? = some v ∧ Rp Z v d := by
  induction vs generalizing ds k with
  | nil => cases h; simp at hk
  | cons v vs ih =>
    cases h with
    | cons h r =>
      cases k with
      | zero => simp at hk; subst hk; exact ⟨v, rfl, h⟩
      | succ k => simp at hk; obtain ⟨u, h1, h2⟩ := ih r hk; exact ⟨u, by simpa using h1, h2⟩
theorem Rps.getV (h : Rps Z vs ds) {k : Nat} (hk : vs[k]? = some v) : ∃ d, ds[k]? = some d ∧ Rp Z v d := by
  induction vs generalizing ds k with
  | nil => simp at hk
  | cons u vs ih =>
    cases h with
    | cons h r =>
      cases k with
      | zero => simp at hk; subst hk; exact ⟨_, rfl, h⟩
      | succ k => simp at hk; obtain ⟨u, h1, h2⟩ := ih r hk; exact ⟨u, by simpa using h1, h2⟩
end

/-- the heap holds the ledger -/
noncomputable def HasL (h : Heap) (Z : Led) : Prop := ∀ p ∈ Z, h.get? p.1 = some p.2

mutual
theorem Rp.reads {Z : Led} {h : Heap} (H : HasL h Z) : ∀ {v : Value} {d : PyData}, Rp Z v d → d.canLay0 = true → ∃ as, Reads h v d as
  | _, _, .none, _ => ⟨_, Reads.none⟩
  | _, _, .bool b, _ => ⟨_, Reads.bool b⟩
  | _, _, .int i t, _ => ⟨_, Reads.int i t⟩
  | _, _, .str x t, _ => ⟨_, Reads.str x t⟩
  | _, _, .exc _ _, hl => by simp [PyData.canLay0] at hl
  | _, _, .tuple hm hc hd r, hl => by
    obtain ⟨as, q⟩ := Rps.reads H r (by simpa [PyData.canLay0] using hl)
    exact ⟨as, .tuple (H _ hm) hc hd (by simpa using q)⟩
  | _, _, .list hm hc hd r, hl => by
    obtain ⟨as, q⟩ := Rps.reads H r (by simpa [PyData.canLay0] using hl)
    exact ⟨_, .list (H _ hm) hc hd (by simpa using q)⟩
theorem Rps.reads {Z : Led} {h : Heap} (H : HasL h Z) : ∀ {vs : List Value} {ds : List PyData}, Rps Z vs ds → PyData.canLayAll0 ds = true → ∃ as, ReadsAll h vs ds as
  | _, _, .nil, _ => ⟨_, .nil⟩
  | _, _, .cons hd r, hl => by
    rw [PyData.canLayAll0, Bool.and_eq_true] at hl
    obtain ⟨as, q⟩ := Rp.reads H hd hl.1
    obtain ⟨bs, p⟩ := Rps.reads H r hl.2
    exact ⟨_, .cons q p⟩
end

section
variable {Z : Led} {h : Heap} {v : Value} {ds : List PyData}
theorem Rp.tupleAt (H : HasL h Z) (r : Rp Z v (.tuple ds)) : ∃ a vs, v = .ref a ∧ IsTup h a vs.toArray ∧ Rps Z vs ds := by
  cases r with
  | tuple hm hc hd r => exact ⟨_, _, rfl, ⟨_, H _ hm, hc, _, hd⟩, r⟩
theorem Rp.listAt (H : HasL h Z) (r : Rp Z v (.list ds)) : ∃ a vs, v = .ref a ∧ h.IsList a vs.toArray ∧ Rps Z vs ds := by
  cases r with
  | list hm hc hd r => exact ⟨_, _, rfl, ⟨_, H _ hm, hc, _, hd⟩, r⟩
theorem Rp.intAt {i : Int} (r : Rp Z v (.int i)) : ∃ t, v = .int i t := by cases r; exact ⟨_, rfl⟩
theorem Rp.strAt {x : Str} (r : Rp Z v (.str x)) : ∃ t, v = .str x t := by cases r; exact ⟨_, rfl⟩
theorem Rp.boolAt {b : Bool} (r : Rp Z v (.bool b)) : v = .bool b := by cases r; rfl
theorem Rp.noneAt (r : Rp Z v .none) : v = .none := by cases r; rfl
end

/-! ## Growth: the heap only gains objects, the ledger only gains new ones -/
structure Ext (Z : Led) (s : Shared) (Z' : Led) (s' : Shared) : Prop where
  same : ∃ h' tk, s' = { s with heap := h', toks := tk }
  keep : ∀ b o, s.heap.get? b = some o → s'.heap.get? b = some o
  sub : ∀ p ∈ Z, p ∈ Z'
  new : ∀ p ∈ Z', p ∈ Z ∨ (s.heap.get? p.1 = none ∧ s'.heap.get? p.1 = some p.2)

theorem none_of_keep {h h' : Heap} (k : ∀ b o, h.get? b = some o → h'.get? b = some o) {b : Addr} (e : h'.get? b = none) : h.get? b = none := by
  cases q : h.get? b with
  | none => rfl
  | some o => rw [k b o q] at e; cases e

theorem Ext.refl {Z : Led} {s : Shared} : Ext Z s Z s := ⟨⟨s.heap, s.toks, rfl⟩, fun _ _ e => e, fun _ h => h, fun _ h => .inl h⟩
theorem Ext.trans {Z Z' Z'' : Led} {s s' s'' : Shared} (x : Ext Z s Z' s') (y : Ext Z' s' Z'' s'') : Ext Z s Z'' s'' := by
  obtain ⟨h1, t1, e1⟩ := x.same
  obtain ⟨h2, t2, e2⟩ := y.same
  refine ⟨⟨h2, t2, by rw [e2, e1]⟩, fun b o e => y.keep b o (x.keep b o e), fun p h => y.sub p (x.sub p h), fun p h => ?_⟩
  rcases y.new p h with q | ⟨q1, q2⟩
  · rcases x.new p q with r | ⟨r1, r2⟩
    · exact .inl r
    · exact .inr ⟨r1, y.keep _ _ r2⟩
  · exact .inr ⟨none_of_keep x.keep q1, q2⟩
theorem Ext.toks {Z : Led} {s : Shared} (n : Nat) : Ext Z s Z { s with toks := n } := ⟨⟨s.heap, n, rfl⟩, fun _ _ e => e, fun _ h => h, fun _ h => .inl h⟩
theorem Ext.has {Z Z' : Led} {s s' : Shared} (x : Ext Z s Z' s') (H : HasL s.heap Z) : HasL s'.heap Z' := fun p hp => by
  rcases x.new p hp with q | q
  · exact x.keep _ _ (H p q)
  · exact q.2
/-- the heap gained, the ledger stood -/
theorem Ext.grow {Z : Led} {s : Shared} {h' : Heap} {tk : Nat} (k : ∀ b o, s.heap.get? b = some o → h'.get? b = some o) : Ext Z s Z { s with heap := h', toks := tk } :=
  ⟨⟨h', tk, rfl⟩, k, fun _ h => h, fun _ h => .inl h⟩
/-- one new object entered -/
theorem Ext.more {Z : Led} {s : Shared} {h' : Heap} {tk : Nat} {a : Addr} {o : Obj} (k : ∀ b o, s.heap.get? b = some o → h'.get? b = some o) (hn : s.heap.get? a = none) (ho : h'.get? a = some o) :
    Ext Z s ((a, o) :: Z) { s with heap := h', toks := tk } :=
  ⟨⟨h', tk, rfl⟩, k, fun _ h => .tail _ h, fun p h => by
    rcases List.mem_cons.mp h with rfl | h
    · exact .inr ⟨hn, ho⟩
    · exact .inl h⟩

/-- on the way: the ledger only gains; beside heap and tokens nothing turns -/
structure Fwd (Z : Led) (s : Shared) (Z' : Led) (s' : Shared) : Prop where
  same : ∃ h' tk, s' = { s with heap := h', toks := tk }
  sub : ∀ p ∈ Z, p ∈ Z'
theorem Fwd.refl {Z : Led} {s : Shared} : Fwd Z s Z s := ⟨⟨s.heap, s.toks, rfl⟩, fun _ h => h⟩
theorem Fwd.trans {Z Z' Z'' : Led} {s s' s'' : Shared} (x : Fwd Z s Z' s') (y : Fwd Z' s' Z'' s'') : Fwd Z s Z'' s'' := by
  obtain ⟨h1, t1, e1⟩ := x.same
  obtain ⟨h2, t2, e2⟩ := y.same
  exact ⟨⟨h2, t2, by rw [e2, e1]⟩, fun p h => y.sub p (x.sub p h)⟩
theorem Ext.fwd {Z Z' : Led} {s s' : Shared} (x : Ext Z s Z' s') : Fwd Z s Z' s' := ⟨x.same, x.sub⟩
theorem Fwd.at {Z : Led} {s : Shared} {h' : Heap} {tk : Nat} : Fwd Z s Z { s with heap := h', toks := tk } := ⟨⟨h', tk, rfl⟩, fun _ h => h⟩
theorem Fwd.led {Z Z' : Led} {s : Shared} (h : ∀ p ∈ Z, p ∈ Z') : Fwd Z s Z' s := ⟨⟨s.heap, s.toks, rfl⟩, h⟩

/-! ## The program's fixed facts, and the ground on which a call stands -/
structure Cx where
  prog : Program
  w : World
  K : Frag
  p : Program
  loose : List Str
  mg : Str → Option Value
  mb : Str → Option Value
  exs : List Str

noncomputable abbrev valBm : List Value := [.type "ValueError", .type "Exception", .type "BaseException", .type "object"]
/-- the top's names, and the program's own exceptions -/
structure TopX (C : Cx) (h : Heap) : Prop where
  top : TopRead C.p C.loose C.mg C.mb h
  own : ∀ x ∈ C.exs, ∃ c, OwnClsQ x c valBm "ValueError.__new__" C.mg h
theorem TopX.keeps {C : Cx} {h h' : Heap} (T : TopX C h) (k : ∀ b o, h.get? b = some o → h'.get? b = some o) : TopX C h' :=
  ⟨T.top.keeps k, fun x hx => let ⟨c, O⟩ := T.own x hx; ⟨c, O.keeps k⟩⟩

/-- what a call needs of the caller -/
structure Gnd (C : Cx) (A A₀ : Around) (base : Heap) (outer : List Env) (h₀ : Heap) (L : Addr) (m : Str → Option Value) (env : Env) (pin Z : Led) (s : Shared) : Prop where
  B : Below A₀ base outer h₀
  F : Fr h₀ L s.heap m
  N : News h₀ L s.heap (pin ++ Z)
  XB : C.K.In base
  TB : TopX C base
  hA : A.frames = some (env :: outer)
  hf : env.frame = some L
  hk : env.scope.kind = .function

theorem Gnd.X {C : Cx} {A A₀ : Around} {base : Heap} {outer : List Env} {h₀ : Heap} {L : Addr} {m : Str → Option Value} {env : Env} {pin Z : Led} {s : Shared} (G : Gnd C A A₀ base outer h₀ L m env pin Z s) : C.K.In h₀ := G.XB.keeps G.B.stays
theorem Gnd.T {C : Cx} {A A₀ : Around} {base : Heap} {outer : List Env} {h₀ : Heap} {L : Addr} {m : Str → Option Value} {env : Env} {pin Z : Led} {s : Shared} (G : Gnd C A A₀ base outer h₀ L m env pin Z s) : TopRead C.p C.loose C.mg C.mb h₀ := G.TB.top.keeps G.B.stays

noncomputable def Ground (C : Cx) (A : Around) (Z : Led) (s : Shared) : Prop := ∃ A₀ base outer h₀ L m env, Gnd C A A₀ base outer h₀ L m env [] Z s

/-- a state predicate that stands growth and lets calls be made -/
structure Okay (C : Cx) (A : Around) (St : Led → Shared → Prop) : Prop where
  ext : ∀ {Z s Z' s'}, St Z s → Ext Z s Z' s' → St Z' s'
  call : ∀ {Z s}, St Z s → Ground C A Z s

theorem Ground.has {C : Cx} {A : Around} {Z : Led} {s : Shared} (g : Ground C A Z s) : HasL s.heap Z := by
  obtain ⟨_, _, _, _, _, _, _, G⟩ := g
  exact fun p hp => (G.N p (by simpa using hp)).1
theorem Okay.has {C : Cx} {A : Around} {St : Led → Shared → Prop} (O : Okay C A St) {Z : Led} {s : Shared} (h : St Z s) : HasL s.heap Z := (O.call h).has

/-- room for k calls within calls -/
structure Room (A : Around) (k : Nat) : Prop where
  depth : A.depth + k ≤ 950
  units : A.units + 8 * k ≤ 4000

/-! ## Expressions -/
section
variable (C : Cx) (A : Around) (St : Led → Shared → Prop) (env : Env)
/-- the expression gives the data d; the heap only grows -/
noncomputable def EvE (e : PySem.Expr) (d : PyData) : Prop :=
  ∀ Z s (K : Value → Shared → Prop) (E : Value → Shared → Prop), St Z s → (∀ v Z' s', Ext Z s Z' s' → Rp Z' v d → K v s') → wpAny (model C.prog C.w) A (eval e env) K E s
/-- the test comes out b -/
noncomputable def EvB (e : PySem.Expr) (b : Bool) : Prop :=
  ∀ Z s (K : Bool → Shared → Prop) (E : Value → Shared → Prop), St Z s → (∀ Z' s', Ext Z s Z' s' → K b s') → wpAny (model C.prog C.w) A (isTrue e env (eval e env)) K E s
noncomputable def EvEs (es : List PySem.Expr) (ds : List PyData) : Prop :=
  ∀ pos Z s (K : List Value → Shared → Prop) (E : Value → Shared → Prop), St Z s → (∀ vs Z' s', Ext Z s Z' s' → Rps Z' vs ds → K vs s') → wpAny (model C.prog C.w) A (spliced (backTo pos (starEach es env))) K E s
/-- a name that is a fixed value (a def, a class, a builtin) -/
noncomputable def NmV (x : Str) (v : Value) : Prop :=
  ∀ pos Z s (K : Value → Shared → Prop) (E : Value → Shared → Prop), St Z s → K v s → wpAny (model C.prog C.w) A (eval (.Name x pos) env) K E s
end

/-- the contract of a def: called upon the data ds it gives d -/
noncomputable def FnOK (C : Cx) (f : Addr) (k : Nat) (ds : List PyData) (d : PyData) : Prop :=
  ∀ A Z s vs (R : Result → Shared → Prop), Ground C A Z s → Room A k → A.handled = none → Rps Z vs ds → (∀ v Z' s', Ext Z s Z' s' → Rp Z' v d → R (.ok (.ret v)) s') →
    codeAny (model C.prog C.w) A (.call (.ref f) ⟨vs, []⟩) R s
noncomputable def IsFn (C : Cx) (f : Addr) : Prop := ∃ oc od fd osl, C.K.lookup f = some ⟨oc, od, .func fd, osl⟩

section
variable {C : Cx} {A : Around} {St : Led → Shared → Prop} {env : Env}

theorem EvE.const_int {i : Int} {k : Nat} {pos : Pos} : EvE C A St env (.Constant (.int i) k pos) (.int i) := fun Z s K E _ hK =>
  wpAny_Constant_int (hK _ Z _ (.toks _) (.int _ _))
theorem EvE.const_bool {b : Bool} {k : Nat} {pos : Pos} : EvE C A St env (.Constant (.bool b) k pos) (.bool b) := fun Z s K E _ hK =>
  Constant_bool (hK _ Z _ .refl (.bool _))
theorem EvE.const_none {k : Nat} {pos : Pos} : EvE C A St env (.Constant .none k pos) .none := fun Z s K E _ hK =>
  Constant_none (hK _ Z _ .refl .none)

theorem EvEs.nil : EvEs C A St env [] [] := fun pos Z s K E _ hK => args_nil (hK _ Z _ .refl .nil)
theorem EvEs.cons (O : Okay C A St) {e : PySem.Expr} {es : List PySem.Expr} {d : PyData} {ds : List PyData} (h : EvE C A St env e d) (r : EvEs C A St env es ds)
    (he : starEach (e :: es) env = (false, eval e env) :: starEach es env := by rfl) : EvEs C A St env (e :: es) (d :: ds) := fun pos Z s K E hs hK =>
  args_cons (h Z s _ E hs fun v Z' s' x hv => r pos Z' s' _ E (O.ext hs x) fun vs Z'' s'' y hvs => hK _ _ _ (x.trans y) (.cons (hv.mono y.sub) hvs)) he

theorem EvB.plain (O : Okay C A St) {e : PySem.Expr} {b : Bool} (h : EvE C A St env e (.bool b))
    (he : ∀ whole, isTrue e env whole = (do let v ← whole; standAt e.pos; holding [v] (truthy v)) := by intro _; rfl) : EvB C A St env e b := fun Z s K E hs hK =>
  isTrue_plain (h Z s _ E hs fun v Z' s' x hv => by rw [hv.boolAt]; exact wpAny_truthy_bool (hK _ _ x)) (he _)
theorem EvB.not {e : PySem.Expr} {b : Bool} {pos : Pos} (h : EvB C A St env e b) : EvB C A St env (.UnaryOp .Not e pos) (!b) := fun Z s K E hs hK =>
  isTrue_not (h Z s _ E hs fun Z' s' x => hK Z' s' x)
theorem EvB.and_nil {pos : Pos} : EvB C A St env (.BoolOp .And [] pos) true := fun Z s K E _ hK => isTrue_and_nil (hK Z s .refl)
theorem EvB.or_nil {pos : Pos} : EvB C A St env (.BoolOp .Or [] pos) false := fun Z s K E _ hK => isTrue_or_nil (hK Z s .refl)
theorem EvB.and (O : Okay C A St) {e : PySem.Expr} {es : List PySem.Expr} {b c : Bool} {pos : Pos} (h : EvB C A St env e b) (r : b = true → EvB C A St env (.BoolOp .And es pos) c) :
    EvB C A St env (.BoolOp .And (e :: es) pos) (b && c) := fun Z s K E hs hK => by
  refine isTrue_and (h Z s _ E hs fun Z' s' x => ?_)
  cases b with
  | false => exact hK _ _ x
  | true =>
    simp only [if_true]
    exact r rfl Z' s' _ E (O.ext hs x) fun Z'' s'' y => hK _ _ (x.trans y)
theorem EvB.or (O : Okay C A St) {e : PySem.Expr} {es : List PySem.Expr} {b c : Bool} {pos : Pos} (h : EvB C A St env e b) (r : b = false → EvB C A St env (.BoolOp .Or es pos) c) :
    EvB C A St env (.BoolOp .Or (e :: es) pos) (b || c) := fun Z s K E hs hK => by
  refine isTrue_or (h Z s _ E hs fun Z' s' x => ?_)
  cases b with
  | true => exact hK _ _ x
  | false =>
    simp only [Bool.false_eq_true, if_false]
    exact r rfl Z' s' _ E (O.ext hs x) fun Z'' s'' y => hK _ _ (x.trans y)

/-- not, and, or as values -/
theorem EvE.not (O : Okay C A St) {e : PySem.Expr} {b : Bool} {pos : Pos} (h : EvE C A St env e (.bool b)) : EvE C A St env (.UnaryOp .Not e pos) (.bool (!b)) := fun Z s K E hs hK =>
  UnaryOp_ (h Z s _ E hs fun v Z' s' x hv => by rw [hv.boolAt]; exact not_of (wpAny_truthy_bool (hK _ _ _ x (.bool _))))
theorem EvE.bool_one {op : PySem.BoolOp} {e : PySem.Expr} {d : PyData} {pos : Pos} (h : EvE C A St env e d) : EvE C A St env (.BoolOp op [e] pos) d := fun Z s K E hs hK =>
  BoolOp_one (h Z s K E hs hK)
theorem EvE.and (O : Okay C A St) {e e2 : PySem.Expr} {es : List PySem.Expr} {b c : Bool} {pos : Pos} (h : EvE C A St env e (.bool b)) (r : b = true → EvE C A St env (.BoolOp .And (e2 :: es) pos) (.bool c)) :
    EvE C A St env (.BoolOp .And (e :: e2 :: es) pos) (.bool (b && c)) := fun Z s K E hs hK => by
  refine BoolOp_and (h Z s _ E hs fun v Z' s' x hv => ?_)
  rw [hv.boolAt]
  refine wpAny_truthy_bool ?_
  cases b with
  | false => exact hK _ _ _ x (.bool _)
  | true =>
    simp only [if_true]
    exact r rfl Z' s' _ E (O.ext hs x) fun v Z'' s'' y hv => hK _ _ _ (x.trans y) hv
theorem EvE.or (O : Okay C A St) {e e2 : PySem.Expr} {es : List PySem.Expr} {b c : Bool} {pos : Pos} (h : EvE C A St env e (.bool b)) (r : b = false → EvE C A St env (.BoolOp .Or (e2 :: es) pos) (.bool c)) :
    EvE C A St env (.BoolOp .Or (e :: e2 :: es) pos) (.bool (b || c)) := fun Z s K E hs hK => by
  refine BoolOp_or (h Z s _ E hs fun v Z' s' x hv => ?_)
  rw [hv.boolAt]
  refine wpAny_truthy_bool ?_
  cases b with
  | true => exact hK _ _ _ x (.bool _)
  | false =>
    simp only [Bool.false_eq_true, if_false]
    exact r rfl Z' s' _ E (O.ext hs x) fun v Z'' s'' y hv => hK _ _ _ (x.trans y) hv
end
end Mine

namespace Mine
open PySem PySem.W PySem.Spec PySem.Calls PyProof.Rows

section
variable {C : Cx} {A : Around} {St : Led → Shared → Prop} {env : Env}

theorem EvE.const_str {x : Str} {k : Nat} {pos : Pos} : EvE C A St env (.Constant (.str x) k pos) (.str x) := fun Z s K E _ hK =>
  wpAny_Constant_str (hK _ Z _ (.toks _) (.str _ _))

/-! ### operators -/
inductive BinR : PySem.Operator → PyData → PyData → PyData → Prop
  | add {i j : Int} : BinR .Add (.int i) (.int j) (.int (i + j))
  | sub {i j : Int} : BinR .Sub (.int i) (.int j) (.int (i - j))
  | mul {i j : Int} (h : i.natAbs < 2 ^ 62 ∨ j.natAbs < 2 ^ 62) : BinR .Mult (.int i) (.int j) (.int (i * j))
  | fdiv {i j : Int} (h : 0 < j) (h2 : j < 2 ^ 62) : BinR .FloorDiv (.int i) (.int j) (.int (i / j))
  | mod {i j : Int} (h : 0 < j) : BinR .Mod (.int i) (.int j) (.int (i % j))
  | pow {i j r : Int} (h : 0 ≤ j) (h2 : j ≤ 1000) (h3 : i.natAbs < 2 ^ 64) (hr : i ^ j.toNat = r) : BinR .Pow (.int i) (.int j) (.int r)
  | addL {ds es : List PyData} (h : ds.length + es.length ≤ 2 ^ 20) : BinR .Add (.list ds) (.list es) (.list (ds ++ es))
  | addT {ds es : List PyData} (h : ds.length + es.length ≤ 2 ^ 20) : BinR .Add (.tuple ds) (.tuple es) (.tuple (ds ++ es))

theorem intBits_small {i : Int} (h : i.natAbs < 2 ^ 62) : Builtin.Int.intBits i ≤ 64 := by
  unfold Builtin.Int.intBits
  split
  · omega
  · rename_i hi
    have h0 : i.natAbs ≠ 0 := by
      intro e; apply hi; simp at e; simp [e]
    have := (Nat.log2_lt h0).mpr h
    omega

theorem push_keeps {h : Heap} (o : Obj) : ∀ b x, h.get? b = some x → (h.push o).get? b = some x := fun _ _ e => Heap.get?_push_of_some _ e
theorem fresh_get (h : Heap) : h.get? h.objs.size = none := Heap.get?_none_of_le (Nat.le_refl _)

theorem binR_ok {op : PySem.Operator} {d1 d2 d : PyData} (hb : BinR op d1 d2 d) {Z : Led} {s : Shared} (H : HasL s.heap Z) {v1 v2 : Value} (r1 : Rp Z v1 d1) (r2 : Rp Z v2 d2)
    {K : Value → Shared → Prop} {E : Value → Shared → Prop} (hK : ∀ v Z' s', Ext Z s Z' s' → Rp Z' v d → K v s') : wpAny (model C.prog C.w) A (binaryOp op v1 v2) K E s := by
  cases hb with
  | add =>
    obtain ⟨t, rfl⟩ := r1.intAt; obtain ⟨u, rfl⟩ := r2.intAt
    exact P.add_int (hK _ Z _ (.toks _) (.int _ _))
  | sub =>
    obtain ⟨t, rfl⟩ := r1.intAt; obtain ⟨u, rfl⟩ := r2.intAt
    exact P.sub_int (hK _ Z _ (.toks _) (.int _ _))
  | mul h =>
    obtain ⟨t, rfl⟩ := r1.intAt; obtain ⟨u, rfl⟩ := r2.intAt
    exact P.mul_int (hK _ Z _ (.toks _) (.int _ _)) (h.elim (fun q => .of_left (intBits_small q)) fun q => .of_right (intBits_small q))
  | fdiv h h2 =>
    obtain ⟨t, rfl⟩ := r1.intAt; obtain ⟨u, rfl⟩ := r2.intAt
    rename_i i j
    refine floordiv_int (by omega) ?_ (.inl (PyProof.noPylong_of_log2 ?_))
    · rw [Int.fdiv_eq_ediv_of_nonneg _ (Int.le_of_lt h)]
      exact hK _ Z _ (.toks _) (.int _ _)
    · have h0 : j.natAbs ≠ 0 := by omega
      have : j.natAbs < 2 ^ 62 := by omega
      have := (Nat.log2_lt h0).mpr this
      omega
  | mod h =>
    obtain ⟨t, rfl⟩ := r1.intAt; obtain ⟨u, rfl⟩ := r2.intAt
    refine mod_int' (by omega) ?_
    rw [Int.fmod_eq_emod_of_nonneg _ (Int.le_of_lt h)]
    exact hK _ Z _ (.toks _) (.int _ _)
  | pow h h2 h3 hr =>
    obtain ⟨t, rfl⟩ := r1.intAt; obtain ⟨u, rfl⟩ := r2.intAt
    exact pow_int_small h (by omega) h3 (hr ▸ hK _ Z _ (.toks _) (.int _ _))
  | addL h =>
    obtain ⟨a, vs, rfl, hl, q1⟩ := r1.listAt H; obtain ⟨b, ws, rfl, hb, q2⟩ := r2.listAt H
    have l1 := q1.length
    have l2 := q2.length
    obtain ⟨⟨cls, dd, data, sl⟩, ho, hc, n, hd⟩ := id hl
    obtain ⟨⟨cls2, dd2, data2, sl2⟩, ho2, hc2, n2, hd2⟩ := id hb
    simp only at hc hd hc2 hd2
    subst hc hd hc2 hd2
    have e : vs.toArray ++ ws.toArray = (vs ++ ws).toArray := by simp
    refine concat_meets ⟨_, ho, rfl⟩ ⟨_, ho2, rfl⟩ noFill_list_add seq_list_add PySem.F.slot_list_add PySem.F.entry_list_add (PySem.F.args_list_add_2 _ _)
      (list_addW a b vs.toArray ws.toArray n n2 dd dd2 sl sl2 (by rw [List.size_toArray, List.size_toArray, sizeLine_eq]; omega)) ⟨ho, ho2, ?_⟩
    rw [e]
    exact hK _ _ _ (.more (push_keeps _) (fresh_get _) (Heap.get?_push_size _ rfl)) (.list (.head _) rfl rfl ((q1.append q2).mono fun _ hp => .tail _ hp))
  | addT h =>
    obtain ⟨a, vs, rfl, hl, q1⟩ := r1.tupleAt H; obtain ⟨b, ws, rfl, hb, q2⟩ := r2.tupleAt H
    have l1 := q1.length
    have l2 := q2.length
    obtain ⟨⟨cls, dd, data, sl⟩, ho, hc, n, hd⟩ := id hl
    obtain ⟨⟨cls2, dd2, data2, sl2⟩, ho2, hc2, n2, hd2⟩ := id hb
    simp only at hc hd hc2 hd2
    subst hc hd hc2 hd2
    have e : vs.toArray ++ ws.toArray = (vs ++ ws).toArray := by simp
    by_cases hv : vs = []
    · subst hv
      cases q1
      exact concat_meets ⟨_, ho, rfl⟩ ⟨_, ho2, rfl⟩ noFill_tuple_add seq_tuple_add PySem.F.slot_tuple_add PySem.F.entry_tuple_add (PySem.F.args_tuple_add_2 _ _)
        (tuple_addW0 a b #[] ws.toArray n n2 dd dd2 sl sl2 rfl) ⟨ho, ho2, hK _ Z _ .refl (by simpa using r2)⟩
    · by_cases hw : ws = []
      · subst hw
        cases q2
        exact concat_meets ⟨_, ho, rfl⟩ ⟨_, ho2, rfl⟩ noFill_tuple_add seq_tuple_add PySem.F.slot_tuple_add PySem.F.entry_tuple_add (PySem.F.args_tuple_add_2 _ _)
          (tuple_addW1 a b vs.toArray #[] n n2 dd dd2 sl sl2 (by simpa using hv) rfl) ⟨ho, ho2, hK _ Z _ .refl (by simpa using r1)⟩
      · refine concat_meets ⟨_, ho, rfl⟩ ⟨_, ho2, rfl⟩ noFill_tuple_add seq_tuple_add PySem.F.slot_tuple_add PySem.F.entry_tuple_add (PySem.F.args_tuple_add_2 _ _)
          (tuple_addW2 a b vs.toArray ws.toArray n n2 dd dd2 sl sl2 (by simpa using hv) (by simpa using hw) (by rw [List.size_toArray, List.size_toArray, sizeLine_eq]; omega)) ⟨ho, ho2, ?_⟩
        rw [e]
        exact hK _ _ _ (.more (push_keeps _) (fresh_get _) (Heap.get?_push_size _ rfl)) (.tuple (.head _) rfl rfl ((q1.append q2).mono fun _ hp => .tail _ hp))

theorem EvE.bin (O : Okay C A St) {op : PySem.Operator} {l r : PySem.Expr} {pos : Pos} {d1 d2 d : PyData} (h1 : EvE C A St env l d1) (h2 : EvE C A St env r d2) (hb : BinR op d1 d2 d) :
    EvE C A St env (.BinOp l op r pos) d := fun Z s K E hs hK =>
  wpAny_BinOp (h1 Z s _ E hs fun v1 Z1 s1 x1 r1 => h2 Z1 s1 _ E (O.ext hs x1) fun v2 Z2 s2 x2 r2 =>
    binR_ok hb (O.has (O.ext (O.ext hs x1) x2)) (r1.mono x2.sub) r2 fun v Z3 s3 x3 r3 => hK _ _ _ ((x1.trans x2).trans x3) r3)

/-! ### comparisons -/
inductive CmpR : PySem.CmpOp → PyData → PyData → Bool → Prop
  | lt {i j : Int} : CmpR .Lt (.int i) (.int j) (decide (i < j))
  | le {i j : Int} : CmpR .LtE (.int i) (.int j) (decide (i ≤ j))
  | gt {i j : Int} : CmpR .Gt (.int i) (.int j) (decide (j < i))
  | ge {i j : Int} : CmpR .GtE (.int i) (.int j) (decide (j ≤ i))
  | eq_int {i j : Int} : CmpR .Eq (.int i) (.int j) (decide (i = j))
  | ne_int {i j : Int} : CmpR .NotEq (.int i) (.int j) (!decide (i = j))
  | eq_str {x y : Str} : CmpR .Eq (.str x) (.str y) (decide (x = y))
  | ne_str {x y : Str} : CmpR .NotEq (.str x) (.str y) (!decide (x = y))
  | eq {d1 d2 : PyData} (h1 : SeqAt.shaped d1 = true) (h2 : SeqAt.shaped d2 = true) : CmpR .Eq d1 d2 (PyData.eqv d1 d2)
  | ne {d1 d2 : PyData} (h1 : SeqAt.shaped d1 = true) (h2 : SeqAt.shaped d2 = true) : CmpR .NotEq d1 d2 (!PyData.eqv d1 d2)
  | is_none : CmpR .Is .none .none true
  | is_tup {ds : List PyData} : CmpR .Is (.tuple ds) .none false
  | isIn {ds : List PyData} {d : PyData} (h1 : SeqAt.shaped (.list ds) = true) (h2 : SeqAt.shaped d = true) : CmpR .In d (.list ds) (ds.any fun y => PyData.eqv y d)

theorem cmpR_ok (hu : A.units + 200 < cLine) {op : PySem.CmpOp} {d1 d2 : PyData} {b : Bool} (hb : CmpR op d1 d2 b) {Z : Led} {s : Shared} (H : HasL s.heap Z) {v1 v2 : Value} (r1 : Rp Z v1 d1) (r2 : Rp Z v2 d2)
    {K : Value → Shared → Prop} {E : Value → Shared → Prop} (hK : ∀ Z' s', Ext Z s Z' s' → K (.bool b) s') : wpAny (model C.prog C.w) A (compareOp op v1 v2) K E s := by
  cases hb with
  | lt => obtain ⟨t, rfl⟩ := r1.intAt; obtain ⟨u, rfl⟩ := r2.intAt; exact P.lt_int (hK Z _ .refl)
  | le => obtain ⟨t, rfl⟩ := r1.intAt; obtain ⟨u, rfl⟩ := r2.intAt; exact P.le_int (hK Z _ .refl)
  | gt => obtain ⟨t, rfl⟩ := r1.intAt; obtain ⟨u, rfl⟩ := r2.intAt; exact P.gt_int (hK Z _ .refl)
  | ge => obtain ⟨t, rfl⟩ := r1.intAt; obtain ⟨u, rfl⟩ := r2.intAt; exact P.ge_int (hK Z _ .refl)
  | eq_int => obtain ⟨t, rfl⟩ := r1.intAt; obtain ⟨u, rfl⟩ := r2.intAt; exact P.eq_int (hK Z _ .refl)
  | ne_int => obtain ⟨t, rfl⟩ := r1.intAt; obtain ⟨u, rfl⟩ := r2.intAt; exact P.ne_int (hK Z _ .refl)
  | eq_str => obtain ⟨t, rfl⟩ := r1.strAt; obtain ⟨u, rfl⟩ := r2.strAt; exact PyProof.Rows.eq_str (hK Z _ .refl)
  | ne_str => obtain ⟨t, rfl⟩ := r1.strAt; obtain ⟨u, rfl⟩ := r2.strAt; exact PyProof.Rows.ne_str (hK Z _ .refl)
  | eq h1 h2 =>
    obtain ⟨as, q1⟩ := r1.reads H (SeqAt.canLay_of_shaped h1); obtain ⟨bs, q2⟩ := r2.reads H (SeqAt.canLay_of_shaped h2)
    exact eq_dataH q1 q2 h1 h2 (by omega) (hK Z _ .refl)
  | ne h1 h2 =>
    obtain ⟨as, q1⟩ := r1.reads H (SeqAt.canLay_of_shaped h1); obtain ⟨bs, q2⟩ := r2.reads H (SeqAt.canLay_of_shaped h2)
    exact ne_dataH q1 q2 h1 h2 (by omega) (hK Z _ .refl)
  | is_none => rw [r1.noneAt, r2.noneAt]; exact wpAny_is_self rfl (hK Z _ .refl)
  | is_tup =>
    obtain ⟨a, vs, rfl, _, _⟩ := r1.tupleAt H
    rw [r2.noneAt]; exact is_ref_none (hK Z _ .refl)
  | isIn h1 h2 =>
    obtain ⟨as, q2⟩ := r2.reads H (SeqAt.canLay_of_shaped h1); obtain ⟨bs, q1⟩ := r1.reads H (SeqAt.canLay_of_shaped h2)
    unfold SeqAt.shaped at h1 h2
    simp only [Bool.and_eq_true, decide_eq_true_eq, PyData.canLay0, PyData.depth] at h1 h2
    refine SeqAt.in_list_reads q2 q1 h1.1 h2.1 ?_ (hK Z _ .refl)
    have := Nat.min_le_right (PyData.depthAll ‹_›) (PyData.depth d1)
    omega

theorem EvE.cmp (O : Okay C A St) (hu : A.units + 200 < cLine) {op : PySem.CmpOp} {l r : PySem.Expr} {pos : Pos} {d1 d2 : PyData} {b : Bool} (h1 : EvE C A St env l d1) (h2 : EvE C A St env r d2) (hb : CmpR op d1 d2 b)
    (hm : behindInMarks op r = false := by with_unfolding_all rfl) : EvE C A St env (.Compare l [op] [r] pos) (.bool b) := fun Z s K E hs hK =>
  wpAny_Compare1 (h1 Z s _ E hs fun v1 Z1 s1 x1 r1 => h2 Z1 s1 _ E (O.ext hs x1) fun v2 Z2 s2 x2 r2 =>
    cmpR_ok hu hb (O.has (O.ext (O.ext hs x1) x2)) (r1.mono x2.sub) r2 fun Z3 s3 x3 => hK _ _ _ ((x1.trans x2).trans x3) (.bool _)) hm
theorem EvB.cmp (O : Okay C A St) (hu : A.units + 200 < cLine) {op : PySem.CmpOp} {l r : PySem.Expr} {pos : Pos} {d1 d2 : PyData} {b : Bool} (h1 : EvE C A St env l d1) (h2 : EvE C A St env r d2) (hb : CmpR op d1 d2 b)
    (hm : behindInMarks op r = false := by with_unfolding_all rfl) : EvB C A St env (.Compare l [op] [r] pos) b := fun Z s K E hs hK =>
  wpAny_isTrue_Compare1 (h1 Z s _ E hs fun v1 Z1 s1 x1 r1 => h2 Z1 s1 _ E (O.ext hs x1) fun v2 Z2 s2 x2 r2 =>
    cmpR_ok hu hb (O.has (O.ext (O.ext hs x1) x2)) (r1.mono x2.sub) r2 fun Z3 s3 x3 => wpAny_truthy_bool (hK _ _ ((x1.trans x2).trans x3))) hm

/-! ### displays -/
theorem EvE.list (O : Okay C A St) {es : List PySem.Expr} {pos : Pos} {ds : List PyData} (h : EvEs C A St env es ds) (hz : ds.length ≤ 2 ^ 20 := by decide) : EvE C A St env (.List es pos) (.list ds) := fun Z s K E hs hK =>
  List_ (h pos Z s _ E hs fun vs Z1 s1 x1 r1 => wpAny_newList (hK _ _ _ (x1.trans (.more (tk := s1.toks) (push_keeps _) (fresh_get _) (Heap.get?_push_size _ rfl))) (.list (.head _) rfl rfl (r1.mono fun _ hp => .tail _ hp)))
    (by rw [r1.length, sizeLine_eq]; omega))
theorem EvE.tuple (O : Okay C A St) {es : List PySem.Expr} {k : Nat} {pos : Pos} {ds : List PyData} (h : EvEs C A St env es ds) (hz : ds.length ≤ 2 ^ 20 := by decide) : EvE C A St env (.Tuple es k pos) (.tuple ds) := fun Z s K E hs hK =>
  Tuple_ (h pos Z s _ E hs fun vs Z1 s1 x1 r1 => wpAny_newTuple (hK _ _ _ (x1.trans (.more (tk := s1.toks) (push_keeps _) (fresh_get _) (Heap.get?_push_size _ rfl))) (.tuple (.head _) rfl rfl (r1.mono fun _ hp => .tail _ hp)))
    (by rw [r1.length, sizeLine_eq]; omega))

/-! ### items -/
theorem idx_cases {i : Int} {n j : Nat} (hj : seqIndex? i n = some j) : (0 ≤ i ∧ i < n ∧ j = i.toNat) ∨ (i < 0 ∧ 0 ≤ i + n ∧ j = (i + n).toNat) := by
  unfold seqIndex? at hj
  by_cases hi : i < 0
  · simp only [if_pos hi] at hj
    by_cases hc : (decide (0 ≤ i + (n : Int)) && decide (i + (n : Int) < (n : Int))) = true
    · rw [if_pos hc] at hj
      simp only [Bool.and_eq_true, decide_eq_true_eq] at hc
      exact .inr ⟨hi, hc.1, (Option.some.inj hj).symm⟩
    · rw [if_neg hc] at hj; cases hj
  · simp only [if_neg hi] at hj
    by_cases hc : (decide (0 ≤ i) && decide (i < (n : Int))) = true
    · rw [if_pos hc] at hj
      simp only [Bool.and_eq_true, decide_eq_true_eq] at hc
      exact .inl ⟨hc.1, hc.2, (Option.some.inj hj).symm⟩
    · rw [if_neg hc] at hj; cases hj
theorem idx_pos {i : Int} {n : Nat} (h0 : 0 ≤ i) (h1 : i < n) : seqIndex? i n = some i.toNat := by
  unfold seqIndex?
  simp only [if_neg (show ¬ i < 0 by omega)]
  exact if_pos (by simp; omega)
theorem idx_neg {i : Int} {n : Nat} (h0 : i < 0) (h1 : 0 ≤ i + n) : seqIndex? i n = some (i + n).toNat := by
  unfold seqIndex?
  simp only [if_pos h0]
  exact if_pos (by simp; omega)
theorem idx_bound {i : Int} {n j : Nat} (hz : n ≤ 2 ^ 40) (hj : seqIndex? i n = some j) : -(2 ^ 40 : Int) ≤ i ∧ i < 2 ^ 40 := by
  rcases idx_cases hj with h | h <;> omega

theorem list_item_raw {value slice : PySem.Expr} {a : Addr} {vs : List Value} {v : Value} {i : Int} {t : Tok} {j : Nat} {s : Shared} (hl : s.heap.IsList a vs.toArray) (hz : vs.length ≤ 2 ^ 40) (hj : seqIndex? i vs.length = some j) (hv : vs[j]? = some v)
    (hs : subscripted slice false (.ref a) (.int i t) = operate [.ref a, .int i t] (getItem (.ref a) (.int i t)))
    {K : Value → Shared → Prop} {E : Value → Shared → Prop} (hK : K v s) : wpAny (model C.prog C.w) A (subscriptTail value slice (.ref a) (.int i t)) K E s := by
  have hb := idx_bound hz hj
  have hg : wpAny (model C.prog C.w) A (getItem (.ref a) (.int i t)) K E s := by
    rcases idx_cases hj with ⟨h0, h1, rfl⟩ | ⟨h0, h1, rfl⟩
    · exact wpAny_getItem_list hl h0 (by omega) (x := v) (by simpa using hv) hK
    · refine wpAny_getItem_list_neg hl h0 (by rw [List.size_toArray]; omega) (by omega) (x := v) ?_ hK
      rw [List.size_toArray]; simpa using hv
  exact tail_any hl.typeIs slot_list_getitem.lookup hg hs

theorem item_ok {value slice : PySem.Expr} {d d' : PyData} {ds : List PyData} {i : Int} {j : Nat} (hd : d = .list ds ∨ d = .tuple ds) (hz : ds.length ≤ 2 ^ 40) (hj : seqIndex? i ds.length = some j) (hx : ds[j]? = some d')
    {Z : Led} {s : Shared} (H : HasL s.heap Z) {v1 v2 : Value} (r1 : Rp Z v1 d) (r2 : Rp Z v2 (.int i))
    (hs : ∀ a t, subscripted slice false (.ref a) (.int i t) = operate [.ref a, .int i t] (getItem (.ref a) (.int i t)))
    {K : Value → Shared → Prop} {E : Value → Shared → Prop} (hK : ∀ v, Rp Z v d' → K v s) : wpAny (model C.prog C.w) A (subscriptTail value slice v1 v2) K E s := by
  obtain ⟨t, rfl⟩ := r2.intAt
  have hb := idx_bound hz hj
  rcases hd with rfl | rfl
  · obtain ⟨a, vs, rfl, hl, q⟩ := r1.listAt H
    obtain ⟨v, hv, rv⟩ := q.get hx
    have l := q.length
    exact list_item_raw hl (by omega) (by rw [l]; exact hj) hv (hs a t) (hK v rv)
  · obtain ⟨a, vs, rfl, hl, q⟩ := r1.tupleAt H
    obtain ⟨v, hv, rv⟩ := q.get hx
    have l := q.length
    exact item_tupleT hl (by omega) (by omega) (by rw [l]; exact hj) hv (hK v rv) (hs a t)

noncomputable def notSlice : PySem.Expr → Bool
  | .Slice .. => false
  | _ => true
theorem sub_plain {slice : PySem.Expr} (h : notSlice slice = true) (o i : Value) : subscripted slice false o i = operate [o, i] (getItem o i) := by
  cases slice <;> first | rfl | cases h

theorem EvE.item (O : Okay C A St) {value slice : PySem.Expr} {pos : Pos} {d d' : PyData} {ds : List PyData} {i : Int} {j : Nat} (h1 : EvE C A St env value d) (h2 : EvE C A St env slice (.int i))
    (hd : d = .list ds ∨ d = .tuple ds) (hz : ds.length ≤ 2 ^ 40) (hj : seqIndex? i ds.length = some j) (hx : ds[j]? = some d')
    (hs : notSlice slice = true := by with_unfolding_all rfl) :
    EvE C A St env (.Subscript value slice pos) d' := fun Z s K E hs' hK =>
  Subscript_ (h1 Z s _ E hs' fun v1 Z1 s1 x1 r1 => h2 Z1 s1 _ E (O.ext hs' x1) fun v2 Z2 s2 x2 r2 =>
    item_ok hd hz hj hx (O.has (O.ext (O.ext hs' x1) x2)) (r1.mono x2.sub) r2 (fun _ _ => sub_plain hs _ _) fun v rv => hK _ _ _ (x1.trans x2) rv)

theorem EvE.neg (O : Okay C A St) {e : PySem.Expr} {i : Int} {pos : Pos} (h : EvE C A St env e (.int i)) : EvE C A St env (.UnaryOp .USub e pos) (.int (-i)) := fun Z s K E hs hK =>
  UnaryOp_ (h Z s _ E hs fun v Z' s' x hv => by obtain ⟨t, rfl⟩ := hv.intAt; exact P.neg_int (hK _ _ _ (x.trans (.toks _)) (.int _ _)))

/-! ### calls -/
theorem EvE.call (O : Okay C A St) {k : Nat} (hr : Room A k) (hh : A.handled = none) {x : Str} {np pos : Pos} {e : PySem.Expr} {es : List PySem.Expr} {f : Addr} {ds : List PyData} {d : PyData}
    (hn : NmV C A St env x (.ref f)) (hfn : IsFn C f) (ha : EvEs C A St env (e :: es) ds) (hf : FnOK C f k ds d)
    (he : starEach (e :: es) env = (false, eval e env) :: starEach es env := by rfl) : EvE C A St env (.Call (.Name x np) (e :: es) [] pos) d := fun Z s K E hs hK => by
  obtain ⟨oc, od, fd, osl, hl⟩ := hfn
  refine Call_ (hn np Z s _ E hs ?_)
  refine callWith_def (o := ⟨oc, od, .func fd, osl⟩) rfl (ha pos Z s _ E hs fun vs Z1 s1 x1 r1 => ?_) he
  have g := O.call (O.ext hs x1)
  refine ⟨?_, wpAny_call (hf A Z1 s1 vs _ g hr hh r1 fun v Z2 s2 x2 rv => hK _ _ _ (x1.trans x2) rv)⟩
  obtain ⟨_, _, _, _, _, _, _, G⟩ := g
  exact G.F.keep _ _ (G.X _ _ hl)

/-- a builtin function's rule -/
noncomputable def BiOK (C : Cx) (A : Around) (f : Value) (ds : List PyData) (d : PyData) : Prop :=
  ∀ Z s vs (K : Value → Shared → Prop) (E : Value → Shared → Prop), HasL s.heap Z → Rps Z vs ds → (∀ v Z' s', Ext Z s Z' s' → Rp Z' v d → K v s') → wpAny (model C.prog C.w) A (PySem.call f vs) K E s

theorem EvE.callB (O : Okay C A St) {x : Str} {np pos : Pos} {e : PySem.Expr} {es : List PySem.Expr} {id : String} {ds : List PyData} {d : PyData}
    (hn : NmV C A St env x (.builtin id)) (ha : EvEs C A St env (e :: es) ds) (hf : BiOK C A (.builtin id) ds d)
    (he : starEach (e :: es) env = (false, eval e env) :: starEach es env := by rfl) (hp : (backTo pos (starEach es env)).any (·.1) = false := by rfl) :
    EvE C A St env (.Call (.Name x np) (e :: es) [] pos) d := fun Z s K E hs hK =>
  Call_ (hn np Z s _ E hs (PyProof.Rows.callWith_builtin1 (ha pos Z s _ E hs fun vs Z1 s1 x1 r1 => hf Z1 s1 vs _ E (O.has (O.ext hs x1)) r1 fun v Z2 s2 x2 rv => hK _ _ _ (x1.trans x2) rv) he hp))
theorem EvE.callT (O : Okay C A St) {x : Str} {np pos : Pos} {e : PySem.Expr} {es : List PySem.Expr} {id : String} {ds : List PyData} {d : PyData}
    (hn : NmV C A St env x (.type id)) (ha : EvEs C A St env (e :: es) ds) (hf : BiOK C A (.type id) ds d)
    (he : starEach (e :: es) env = (false, eval e env) :: starEach es env := by rfl) (hp : (backTo pos (starEach es env)).any (·.1) = false := by rfl) :
    EvE C A St env (.Call (.Name x np) (e :: es) [] pos) d := fun Z s K E hs hK =>
  Call_ (hn np Z s _ E hs (PyProof.Rows.callWith_type1 (ha pos Z s _ E hs fun vs Z1 s1 x1 r1 => hf Z1 s1 vs _ E (O.has (O.ext hs x1)) r1 fun v Z2 s2 x2 rv => hK _ _ _ (x1.trans x2) rv) he hp))

theorem bi_len {d : PyData} {ds : List PyData} (hd : d = .list ds ∨ d = .tuple ds) (hz : ds.length ≤ 2 ^ 40) : BiOK C A (.builtin "len") [d] (.int ds.length) := by
  intro Z s vs K E H r hK
  cases r with
  | cons r1 r2 =>
    cases r2
    rcases hd with rfl | rfl
    · obtain ⟨a, vs, rfl, hl, q⟩ := r1.listAt H
      have l := q.length
      refine PyProof.Rows.len_list hl (by rw [List.size_toArray, l]; omega) ?_
      rw [List.size_toArray, l]
      exact hK _ Z _ (.toks _) (.int _ _)
    · obtain ⟨a, vs, rfl, hl, q⟩ := r1.tupleAt H
      have l := q.length
      refine PyProof.Rows.len_tuple hl (by rw [List.size_toArray, l]; omega) ?_
      rw [List.size_toArray, l]
      exact hK _ Z _ (.toks _) (.int _ _)
theorem bi_max (hh : A.handled = none) {i j : Int} : BiOK C A (.builtin "max") [.int i, .int j] (.int (if j > i then j else i)) := by
  intro Z s vs K E H r hK
  cases r with
  | cons r1 r2 => cases r2 with
    | cons r2 r3 =>
      cases r3
      obtain ⟨t, rfl⟩ := r1.intAt; obtain ⟨u, rfl⟩ := r2.intAt
      refine max_two_ints hh fun h' tk hk => hK _ Z _ (.grow hk) ?_
      split <;> exact .int _ _
theorem bi_min (hh : A.handled = none) {i j : Int} : BiOK C A (.builtin "min") [.int i, .int j] (.int (if j < i then j else i)) := by
  intro Z s vs K E H r hK
  cases r with
  | cons r1 r2 => cases r2 with
    | cons r2 r3 =>
      cases r3
      obtain ⟨t, rfl⟩ := r1.intAt; obtain ⟨u, rfl⟩ := r2.intAt
      refine min_two_ints hh fun h' tk hk => hK _ Z _ (.grow hk) ?_
      split <;> exact .int _ _
theorem bi_list {d : PyData} {ds : List PyData} (hd : d = .list ds ∨ d = .tuple ds) (hz : ds.length ≤ 2 ^ 20) : BiOK C A (.type "list") [d] (.list ds) := by
  intro Z s vs K E H r hK
  cases r with
  | cons r1 r2 =>
    cases r2
    rcases hd with rfl | rfl
    · obtain ⟨a, vs, rfl, ⟨o, ho, hc, n, hd⟩, q⟩ := r1.listAt H
      have l := q.length
      exact call_list_seq a (.inl rfl) ho hc hd (fun h' c' hk hD => hK _ _ _ (.more (tk := s.toks) hk (fresh_get _) hD) (.list (.head _) rfl rfl (q.mono fun _ hp => .tail _ hp))) (by rw [List.size_toArray, l, sizeLine_eq]; omega)
    · obtain ⟨a, vs, rfl, ⟨o, ho, hc, n, hd⟩, q⟩ := r1.tupleAt H
      have l := q.length
      exact call_list_seq a (.inr rfl) ho hc hd (fun h' c' hk hD => hK _ _ _ (.more (tk := s.toks) hk (fresh_get _) hD) (.list (.head _) rfl rfl (q.mono fun _ hp => .tail _ hp))) (by rw [List.size_toArray, l, sizeLine_eq]; omega)
theorem bi_tuple {ds : List PyData} (hz : ds.length ≤ 2 ^ 20) : BiOK C A (.type "tuple") [.list ds] (.tuple ds) := by
  intro Z s vs K E H r hK
  cases r with
  | cons r1 r2 =>
    cases r2
    obtain ⟨a, vs, rfl, hl, q⟩ := r1.listAt H
    have l := q.length
    exact call_tuple_list hl (fun h' hk => hK _ _ _ (.more (tk := s.toks) (fun b o e => Heap.get?_push_of_some _ (hk b o e)) (none_of_keep hk (fresh_get _)) (Heap.get?_push_size _ rfl)) (.tuple (.head _) rfl rfl (q.mono fun _ hp => .tail _ hp)))
      (by rw [List.size_toArray, l, sizeLine_eq]; omega)
end
end Mine

namespace Mine
open PySem PySem.W PySem.Spec PySem.Calls PyProof.Rows

/-! ## The store of a def's names -/
inductive Slot where
  | undef
  | dat (d : PyData)
  | own (ds : List PyData)

/-- a frame's fixed things -/
structure Fx where
  A₀ : Around
  base : Heap
  outer : List Env
  h₀ : Heap
  L : Addr
  env : Env
  ns : List Str

structure FxOK (C : Cx) (A : Around) (F : Fx) : Prop where
  B : Below F.A₀ F.base F.outer F.h₀
  XB : C.K.In F.base
  TB : TopX C F.base
  hA : A.frames = some (F.env :: F.outer)
  hf : F.env.frame = some F.L
  hl : F.env.locals = F.L
  hk : F.env.scope.kind = .function
  hg : F.env.globals = mainGlobals
  hb : F.env.builtins = builtinsNs
  nd : F.ns.Nodup
  kinds : ∀ x ∈ F.ns, (x == ("__debug__" : Str)) = false ∧ (F.env.kindOf x = some .local ∨ (F.env.kindOf x = some .cell ∧ ∃ c, F.env.cells.lookup x = some c))
  cinj : ∀ x y c, F.env.cells.lookup x = some c → F.env.cells.lookup y = some c → x = y

theorem FxOK.X {C : Cx} {A : Around} {F : Fx} (h : FxOK C A F) : C.K.In F.h₀ := h.XB.keeps h.B.stays
theorem FxOK.T {C : Cx} {A : Around} {F : Fx} (h : FxOK C A F) : TopRead C.p C.loose C.mg C.mb F.h₀ := h.TB.top.keeps h.B.stays

/-- where a name's value lies -/
noncomputable def At (env : Env) (m : Str → Option Value) (muts : Led) (x : Str) (v : Value) : Prop :=
  (env.kindOf x = some .local ∧ m x = some v) ∨ (env.kindOf x = some .cell ∧ ∃ c o, env.cells.lookup x = some c ∧ (c, o) ∈ muts ∧ o.data = .cell (some v))

noncomputable def IsOwn (muts : Led) (Z : Led) (a : Addr) (ds : List PyData) : Prop := ∃ o vs n, (a, o) ∈ muts ∧ o.cls = .type "list" ∧ o.dict = none ∧ o.data = .seq (List.toArray vs) n ∧ Rps Z vs ds

noncomputable def SlotAt (env : Env) (m : Str → Option Value) (muts Z : Led) (a : Addr) (x : Str) : Slot → Prop
  | .undef => True
  | .dat d => ∃ v, At env m muts x v ∧ Rp Z v d
  | .own ds => At env m muts x (.ref a) ∧ IsOwn muts Z a ds

structure FIn (F : Fx) (ρ : List Slot) (pin Z : Led) (s : Shared) (m : Str → Option Value) (muts : Led) (oa : Nat → Addr) : Prop where
  fr : Fr F.h₀ F.L s.heap m
  nw : News F.h₀ F.L s.heap (pin ++ (muts ++ Z))
  d1 : ∀ p ∈ muts, ∀ q ∈ pin ++ Z, p.1 ≠ q.1
  d2 : ∀ p ∈ pin, ∀ q ∈ Z, p.1 ≠ q.1
  slots : ∀ i x sl, F.ns[i]? = some x → ρ[i]? = some sl → SlotAt F.env m muts Z (oa i) x sl
  inj : ∀ i j x y ds es, F.ns[i]? = some x → F.ns[j]? = some y → ρ[i]? = some (.own ds) → ρ[j]? = some (.own es) → oa i = oa j → i = j
  cells : ∀ x c, F.env.cells.lookup x = some c → ∃ o v, (c, o) ∈ muts ∧ o.data = .cell v

noncomputable def FSt (F : Fx) (ρ : List Slot) (pin Z : Led) (s : Shared) : Prop := ∃ m muts oa, FIn F ρ pin Z s m muts oa
noncomputable def FS (F : Fx) (ρ : List Slot) (Z : Led) (s : Shared) : Prop := ∃ pin, FSt F ρ pin Z s

theorem At.mono {env : Env} {m : Str → Option Value} {muts muts' : Led} {x : Str} {v : Value} (h : At env m muts x v) (k : ∀ c o w, (c, o) ∈ muts → o.data = .cell w → (c, o) ∈ muts') : At env m muts' x v := by
  rcases h with h | ⟨h1, c, o, h2, h3, h4⟩
  · exact .inl h
  · exact .inr ⟨h1, c, o, h2, k c o _ h3 h4, h4⟩

section
variable {C : Cx} {A : Around} {F : Fx} {ρ : List Slot} {pin Z : Led} {s : Shared}

theorem FIn.has {m : Str → Option Value} {muts : Led} {oa : Nat → Addr} (h : FIn F ρ pin Z s m muts oa) : HasL s.heap Z := fun p hp => (h.nw p (by simp [hp])).1
theorem FIn.newsZ {m : Str → Option Value} {muts : Led} {oa : Nat → Addr} (h : FIn F ρ pin Z s m muts oa) : News F.h₀ F.L s.heap Z := fun p hp => h.nw p (by simp [hp])

theorem SlotAt.ext {env : Env} {m : Str → Option Value} {muts Z Z' : Led} {a : Addr} {x : Str} {sl : Slot} (h : SlotAt env m muts Z a x sl) (k : ∀ p ∈ Z, p ∈ Z') : SlotAt env m muts Z' a x sl := by
  cases sl with
  | undef => trivial
  | dat d => obtain ⟨v, h1, h2⟩ := h; exact ⟨v, h1, h2.mono k⟩
  | own ds => obtain ⟨h1, o, vs, n, h2, h3, h4, h5, h6⟩ := h; exact ⟨h1, o, vs, n, h2, h3, h4, h5, h6.mono k⟩

theorem FIn.ext {m : Str → Option Value} {muts : Led} {oa : Nat → Addr} {Z' : Led} {s' : Shared} (h : FIn F ρ pin Z s m muts oa) (x : Ext Z s Z' s') : FIn F ρ pin Z' s' m muts oa := by
  have hnew : ∀ p ∈ Z', p ∉ Z → F.h₀.get? p.1 = none ∧ p.1 ≠ F.L ∧ s.heap.get? p.1 = none := fun p hp hz => by
    rcases x.new p hp with q | ⟨q1, q2⟩
    · exact absurd q hz
    · refine ⟨none_of_keep h.fr.keep q1, fun e => ?_, q1⟩
      obtain ⟨oL, _, _, hL, _⟩ := h.fr.ns
      rw [e, hL] at q1; cases q1
  refine ⟨⟨h.fr.ns.keeps x.keep, fun b o e => x.keep b o (h.fr.keep b o e), h.fr.above⟩, fun p hp => ?_, fun p hp q hq => ?_, fun p hp q hq => ?_, fun i y sl hi hs => (h.slots i y sl hi hs).ext x.sub, h.inj, h.cells⟩
  · rcases List.mem_append.mp hp with hp | hp
    · have := h.nw p (List.mem_append_left _ hp); exact ⟨x.keep _ _ this.1, this.2⟩
    · rcases List.mem_append.mp hp with hp | hp
      · have := h.nw p (List.mem_append_right _ (List.mem_append_left _ hp)); exact ⟨x.keep _ _ this.1, this.2⟩
      · rcases x.new p hp with q | ⟨q1, q2⟩
        · have := h.nw p (List.mem_append_right _ (List.mem_append_right _ q)); exact ⟨x.keep _ _ this.1, this.2⟩
        · refine ⟨q2, fun e => ?_, none_of_keep h.fr.keep q1⟩
          obtain ⟨oL, _, _, hL, _⟩ := h.fr.ns
          rw [e, hL] at q1; cases q1
  · rcases List.mem_append.mp hq with hq | hq
    · exact h.d1 p hp q (List.mem_append_left _ hq)
    · rcases x.new q hq with r | ⟨r1, r2⟩
      · exact h.d1 p hp q (List.mem_append_right _ r)
      · intro e
        have := (h.nw p (List.mem_append_right _ (List.mem_append_left _ hp))).1
        rw [e, r1] at this; cases this
  · rcases x.new q hq with r | ⟨r1, r2⟩
    · exact h.d2 p hp q r
    · intro e
      have := (h.nw p (List.mem_append_left _ hp)).1
      rw [e, r1] at this; cases this

theorem FSt.ext {Z' : Led} {s' : Shared} (h : FSt F ρ pin Z s) (x : Ext Z s Z' s') : FSt F ρ pin Z' s' := by
  obtain ⟨m, muts, oa, h⟩ := h
  exact ⟨m, muts, oa, h.ext x⟩

theorem FxOK.gnd (hF : FxOK C A F) {m : Str → Option Value} {muts : Led} {oa : Nat → Addr} (h : FIn F ρ pin Z s m muts oa) : Gnd C A F.A₀ F.base F.outer F.h₀ F.L m F.env [] Z s :=
  ⟨hF.B, h.fr, by simpa using h.newsZ, hF.XB, hF.TB, hF.hA, hF.hf, hF.hk⟩

theorem FxOK.okay (hF : FxOK C A F) (ρ : List Slot) : Okay C A (FS F ρ) where
  ext := fun ⟨pin, h⟩ x => ⟨pin, h.ext x⟩
  call := fun ⟨_, m, _, _, h⟩ => ⟨_, _, _, _, _, m, _, hF.gnd h⟩

/-! ### names -/
inductive Var : List Str → List Slot → Str → Nat → Slot → Prop
  | here {x : Str} {ns : List Str} {sl : Slot} {ρ : List Slot} : Var (x :: ns) (sl :: ρ) x 0 sl
  | there {x y : Str} {ns : List Str} {sl sl' : Slot} {ρ : List Slot} {i : Nat} : Var ns ρ x i sl → Var (y :: ns) (sl' :: ρ) x (i + 1) sl
theorem Var.at {ns : List Str} {ρ : List Slot} {x : Str} {i : Nat} {sl : Slot} (h : Var ns ρ x i sl) : ns[i]? = some x ∧ ρ[i]? = some sl := by
  induction h with
  | here => exact ⟨rfl, rfl⟩
  | there _ ih => simpa using ih
inductive Upd : List Str → List Slot → Str → Slot → Nat → List Slot → Prop
  | here {x : Str} {ns : List Str} {sl sl' : Slot} {ρ : List Slot} : Upd (x :: ns) (sl :: ρ) x sl' 0 (sl' :: ρ)
  | there {x y : Str} {ns : List Str} {sl sl' : Slot} {ρ ρ' : List Slot} {i : Nat} : Upd ns ρ x sl' i ρ' → Upd (y :: ns) (sl :: ρ) x sl' (i + 1) (sl :: ρ')
theorem Upd.at {ns : List Str} {ρ ρ' : List Slot} {x : Str} {sl : Slot} {i : Nat} (h : Upd ns ρ x sl i ρ') : ns[i]? = some x ∧ ρ'[i]? = some sl ∧ ∀ j, j ≠ i → ρ'[j]? = ρ[j]? := by
  induction h with
  | here =>
    refine ⟨rfl, rfl, fun j hj => ?_⟩
    cases j with
    | zero => exact absurd rfl hj
    | succ j => rfl
  | there _ ih =>
    refine ⟨by simpa using ih.1, by simpa using ih.2.1, fun j hj => ?_⟩
    cases j with
    | zero => rfl
    | succ j => simpa using ih.2.2 j (by omega)

theorem nodup_idx {ns : List Str} (nd : ns.Nodup) {i j : Nat} {x : Str} (hi : ns[i]? = some x) (hj : ns[j]? = some x) : i = j := by
  obtain ⟨h1, e1⟩ := List.getElem?_eq_some_iff.mp hi
  obtain ⟨h2, e2⟩ := List.getElem?_eq_some_iff.mp hj
  exact (List.getElem_inj nd).mp (e1.trans e2.symm)

/-- reading a name -/
theorem load_at {m : Str → Option Value} {muts : Led} {oa : Nat → Addr} (hF : FxOK C A F) (h : FIn F ρ pin Z s m muts oa) {x : Str} {v : Value} (hx : x ∈ F.ns) (ha : At F.env m muts x v) {pos : Pos}
    {K : Value → Shared → Prop} {E : Value → Shared → Prop} (hK : K v s) : wpAny (model C.prog C.w) A (eval (.Name x pos) F.env) K E s := by
  have hd := (hF.kinds x hx).1
  rcases ha with ⟨h1, h2⟩ | ⟨h1, c, o, h2, h3, h4⟩
  · exact wpAny_Name (wpAny_loadName_local hF.hk h1 (hF.hl ▸ h.fr.ns) h2 hK) hd
  · exact wpAny_Name (wpAny_loadName_cell hF.hk h1 h2 ⟨o, (h.nw (c, o) (by simp [h3])).1, h4⟩ hK) hd

theorem mem_of_get {ns : List Str} {i : Nat} {x : Str} (h : ns[i]? = some x) : x ∈ ns := List.mem_of_getElem? h

theorem EvE.var (hF : FxOK C A F) {x : Str} {pos : Pos} {i : Nat} {d : PyData} (hv : Var F.ns ρ x i (.dat d)) : EvE C A (FS F ρ) F.env (.Name x pos) d := fun Z s K E hs hK => by
  obtain ⟨pin, m, muts, oa, h⟩ := hs
  obtain ⟨v, h1, h2⟩ := h.slots i x _ hv.at.1 hv.at.2
  exact load_at hF h (mem_of_get hv.at.1) h1 (hK v Z s .refl h2)

/-- an item of a list that the frame owns -/
theorem EvE.ownItem (hF : FxOK C A F) {x : Str} {np pos : Pos} {slice : PySem.Expr} {i : Nat} {ds : List PyData} {d' : PyData} {k : Int} {j : Nat} (hv : Var F.ns ρ x i (.own ds)) (h2 : EvE C A (FS F ρ) F.env slice (.int k))
    (hz : ds.length ≤ 2 ^ 40) (hj : seqIndex? k ds.length = some j) (hx : ds[j]? = some d')
    (hs : notSlice slice = true := by with_unfolding_all rfl) :
    EvE C A (FS F ρ) F.env (.Subscript (.Name x np) slice pos) d' := fun Z s K E hs' hK => by
  have hs₀ := hs'
  obtain ⟨pin, m, muts, oa, h⟩ := hs'
  obtain ⟨h1, o, vs, n, m1, m2, m3, m4, m5⟩ := h.slots i x _ hv.at.1 hv.at.2
  refine Subscript_ (load_at hF h (mem_of_get hv.at.1) h1 (h2 Z s _ E hs₀ fun v2 Z2 s2 x2 r2 => ?_))
  have ho : s2.heap.get? (oa i) = some o := x2.keep _ _ (h.nw (oa i, o) (by simp [m1])).1
  obtain ⟨t, rfl⟩ := r2.intAt
  obtain ⟨v, hw, rw⟩ := m5.get hx
  have l := m5.length
  exact list_item_raw ⟨o, ho, m2, n, m4⟩ (by omega) (by rw [l]; exact hj) hw (sub_plain hs _ _) (hK v Z2 s2 x2 (rw.mono x2.sub))
end
end Mine

namespace Mine
open PySem PySem.W PySem.Spec PySem.Calls PyProof.Rows

/-! ## Statements -/
inductive Out where
  | next (ρ : List Slot)
  | cont (ρ : List Slot)
  | brk (ρ : List Slot)
  | ret (d : PyData)

noncomputable def OutAt (F : Fx) (pin : Led) : Out → Flow → Led → Shared → Prop
  | .next ρ, fl, Z, s => fl = .next ∧ FSt F ρ pin Z s
  | .cont ρ, fl, Z, s => fl = .cont ∧ FSt F ρ pin Z s
  | .brk ρ, fl, Z, s => fl = .brk ∧ FSt F ρ pin Z s
  | .ret d, fl, Z, s => ∃ v ρ, fl = .ret v ∧ Rp Z v d ∧ FSt F ρ pin Z s

section
variable (C : Cx) (A : Around) (F : Fx)
noncomputable def ExS (ρ : List Slot) (ss : List PySem.Stmt) (Q : Out → Prop) : Prop :=
  ∀ pin Z s (K : Flow → Shared → Prop), FSt F ρ pin Z s → (∀ o fl Z' s', Q o → OutAt F pin o fl Z' s' → Fwd Z s Z' s' → K fl s') →
    wpAny (model C.prog C.w) A (execs ss F.env) K (fun _ _ => False) s
noncomputable def Ex1 (ρ : List Slot) (st : PySem.Stmt) (Q : Out → Prop) : Prop :=
  ∀ pin Z s (K : Flow → Shared → Prop), FSt F ρ pin Z s → (∀ o fl Z' s', Q o → OutAt F pin o fl Z' s' → Fwd Z s Z' s' → K fl s') →
    wpAny (model C.prog C.w) A (exec st F.env) K (fun _ _ => False) s
/-- what is asked behind a statement: the rest goes on, or the flow leaves -/
noncomputable def Then (rest : List PySem.Stmt) (Q : Out → Prop) : Out → Prop
  | .next ρ => ExS C A F ρ rest Q
  | .cont ρ => Q (.cont ρ)
  | .brk ρ => Q (.brk ρ)
  | .ret d => Q (.ret d)
/-- an assignment of the data d to a target -/
noncomputable def Asg (ρ : List Slot) (t : PySem.Expr) (d : PyData) (ρ' : List Slot) : Prop :=
  ∀ pin Z s v (K : Unit → Shared → Prop), FSt F ρ pin Z s → Rp Z v d → (∀ Z' s', FSt F ρ' pin Z' s' → Fwd Z s Z' s' → K () s') →
    wpAny (model C.prog C.w) A (assign t F.env v) K (fun _ _ => False) s
end

theorem Then.next {C : Cx} {A : Around} {F : Fx} {rest : List PySem.Stmt} {Q : Out → Prop} {ρ : List Slot} (h : ExS C A F ρ rest Q) : Then C A F rest Q (.next ρ) := h
theorem Then.ret {C : Cx} {A : Around} {F : Fx} {rest : List PySem.Stmt} {Q : Out → Prop} {d : PyData} (h : Q (.ret d)) : Then C A F rest Q (.ret d) := h
theorem Then.cont {C : Cx} {A : Around} {F : Fx} {rest : List PySem.Stmt} {Q : Out → Prop} {ρ : List Slot} (h : Q (.cont ρ)) : Then C A F rest Q (.cont ρ) := h

/-- forgetting -/
inductive Sub : List Slot → List Slot → Prop
  | nil : Sub [] []
  | same {sl : Slot} {R ρ : List Slot} : Sub R ρ → Sub (sl :: R) (sl :: ρ)
  | drop {sl : Slot} {R ρ : List Slot} : Sub R ρ → Sub (.undef :: R) (sl :: ρ)
theorem Sub.at {R ρ : List Slot} (h : Sub R ρ) : ∀ (i : Nat) (sl : Slot), R[i]? = some sl → sl = .undef ∨ ρ[i]? = some sl := by
  induction h with
  | nil => intro i sl h; simp at h
  | same _ ih =>
    intro i sl h
    cases i with
    | zero => exact .inr h
    | succ i => simpa using ih i sl (by simpa using h)
  | drop _ ih =>
    intro i sl h
    cases i with
    | zero => simp at h; exact .inl h.symm
    | succ i => simpa using ih i sl (by simpa using h)
theorem Sub.eq {a b : Slot} {R ρ : List Slot} (e : a = b) (h : Sub R ρ) : Sub (a :: R) (b :: ρ) := e ▸ .same h
theorem Sub.refl : ∀ ρ : List Slot, Sub ρ ρ
  | [] => .nil
  | _ :: r => .same (Sub.refl r)

section
variable {C : Cx} {A : Around} {F : Fx} {ρ ρ' : List Slot} {pin Z : Led} {s : Shared}

theorem FSt.weaken (h : FSt F ρ pin Z s) {R : List Slot} (w : Sub R ρ) : FSt F R pin Z s := by
  obtain ⟨m, muts, oa, h⟩ := h
  refine ⟨m, muts, oa, h.fr, h.nw, h.d1, h.d2, fun i x sl hi hs => ?_, fun i j x y ds es hx hy hi hj => ?_, h.cells⟩
  · rcases w.at i sl hs with rfl | q
    · trivial
    · exact h.slots i x sl hi q
  · rcases w.at i _ hi with q | q
    · cases q
    · rcases w.at j _ hj with r | r
      · cases r
      · exact h.inj i j x y ds es hx hy q r

/-- an elder ledger's entries at one address are one -/
theorem FIn.uniq {m : Str → Option Value} {muts : Led} {oa : Nat → Addr} (h : FIn F ρ pin Z s m muts oa) {a : Addr} {o o' : Obj} (h1 : (a, o) ∈ muts) (h2 : (a, o') ∈ muts) : o = o' := by
  have e1 := (h.nw (a, o) (by simp [h1])).1
  have e2 := (h.nw (a, o') (by simp [h2])).1
  simp only at e1 e2
  rw [e1] at e2; exact Option.some.inj e2

noncomputable def updL (l : Led) (a : Addr) (o : Obj) : Led := l.map fun p => if p.1 = a then (a, o) else p
theorem mem_updL_ne {l : Led} {a : Addr} {o : Obj} {p : Addr × Obj} (hp : p ∈ l) (hne : p.1 ≠ a) : p ∈ updL l a o := List.mem_map.mpr ⟨p, hp, by rw [if_neg hne]⟩
theorem mem_updL_self {l : Led} {a : Addr} {o o' : Obj} (hp : (a, o') ∈ l) : (a, o) ∈ updL l a o := List.mem_map.mpr ⟨_, hp, by rw [if_pos rfl]⟩
theorem of_mem_updL {l : Led} {a : Addr} {o : Obj} {p : Addr × Obj} (hp : p ∈ updL l a o) : (p = (a, o) ∧ ∃ o', (a, o') ∈ l) ∨ (p ∈ l ∧ p.1 ≠ a) := by
  obtain ⟨q, hq, e⟩ := List.mem_map.mp hp
  by_cases h : q.1 = a
  · rw [if_pos h] at e; exact .inl ⟨e.symm, q.2, by rw [← h]; exact hq⟩
  · rw [if_neg h] at e; subst e; exact .inr ⟨hq, h⟩

/-- storing into a name -/
theorem store_gen (hF : FxOK C A F) {m : Str → Option Value} {muts : Led} {oa : Nat → Addr} (h : FIn F ρ pin Z s m muts oa) {x : Str} {sl : Slot} {i : Nat} (hu : Upd F.ns ρ x sl i ρ') (v : Value) (oa' : Nat → Addr) (hoa : ∀ j, j ≠ i → oa' j = oa j)
    (hsl : ∀ m' muts', At F.env m' muts' x v → (∀ a o, (a, o) ∈ muts → (∀ w, o.data ≠ .cell w) → (a, o) ∈ muts') → SlotAt F.env m' muts' Z (oa' i) x sl)
    (hinj : ∀ ds, sl = .own ds → ∀ j y es, j ≠ i → F.ns[j]? = some y → ρ[j]? = some (.own es) → oa j ≠ oa' i)
    {K : Unit → Shared → Prop} {E : Value → Shared → Prop} (hK : ∀ s', FSt F ρ' pin Z s' → Fwd Z s Z s' → K () s') : wpAny (model C.prog C.w) A (storeName F.env x v) K E s := by
  obtain ⟨u1, u2, u3⟩ := hu.at
  have hinj' : ∀ j k y z ds es, F.ns[j]? = some y → F.ns[k]? = some z → ρ'[j]? = some (.own ds) → ρ'[k]? = some (.own es) → oa' j = oa' k → j = k := by
    intro j k y z ds es hy hz hj hk e
    by_cases h1 : j = i
    · by_cases h2 : k = i
      · rw [h1, h2]
      · subst h1
        rw [u2] at hj
        rw [u3 k h2] at hk
        rw [hoa k h2] at e
        exact absurd e.symm (hinj ds (Option.some.inj hj) k z es h2 hz hk)
    · by_cases h2 : k = i
      · subst h2
        rw [u2] at hk
        rw [u3 j h1] at hj
        rw [hoa j h1] at e
        exact absurd e (hinj es (Option.some.inj hk) j y ds h1 hy hj)
      · rw [u3 j h1] at hj
        rw [u3 k h2] at hk
        rw [hoa j h1, hoa k h2] at e
        exact h.inj j k y z ds es hy hz hj hk e
  have hne : ∀ j y, j ≠ i → F.ns[j]? = some y → y ≠ x := fun j y hj hy e => hj (nodup_idx hF.nd (e ▸ hy) u1)
  obtain ⟨hd, hk⟩ := hF.kinds x (mem_of_get u1)
  rcases hk with hk | ⟨hk, c, hc⟩
  · refine wpAny_storeName_local hk (hF.hl ▸ h.fr.ns) (fun h' hn hs => hK _ ⟨fun y => if y = x then some v else m y, muts, oa', ?_, ?_, h.d1, h.d2, fun j y sl' hj hs' => ?_, hinj', h.cells⟩ .at) (by rw [hF.hk]; rfl)
    · exact h.fr.set (hF.hl ▸ hn) (hF.hl ▸ hs)
    · exact h.nw.set (hF.hl ▸ hs)
    · by_cases hji : j = i
      · subst hji
        rw [u1] at hj; rw [u2] at hs'
        obtain rfl := Option.some.inj hj; obtain rfl := Option.some.inj hs'
        exact hsl _ _ (.inl ⟨hk, by simp⟩) fun a o hm _ => hm
      · rw [u3 j hji] at hs'
        have hy := hne j y hji hj
        have old := h.slots j y sl' hj hs'
        have at' : ∀ w, At F.env m muts y w → At F.env (fun z => if z = x then some v else m z) muts y w := fun w q => by
          rcases q with ⟨q1, q2⟩ | q
          · exact .inl ⟨q1, by simp only [if_neg hy]; exact q2⟩
          · exact .inr q
        cases sl' with
        | undef => trivial
        | dat d => obtain ⟨w, q1, q2⟩ := old; exact ⟨w, at' w q1, q2⟩
        | own ds => rw [hoa j hji]; obtain ⟨q1, q2⟩ := old; exact ⟨at' _ q1, q2⟩
  · obtain ⟨o, v₀, hm, hdt⟩ := h.cells x c hc
    have hN := h.nw (c, o) (by simp [hm])
    refine wpAny_storeName_cell hF.hk hk hc ⟨o, hN.1, hdt⟩ fun h' hv hs => ?_
    obtain ⟨o', ho', hd'⟩ := hv
    have hcL : c ≠ F.L := hN.2.1
    refine hK _ ⟨m, updL muts c o', oa', ?_, ?_, ?_, h.d2, fun j y sl' hj hs' => ?_, hinj', fun y c' hy => ?_⟩ (.at (tk := s.toks))
    · refine ⟨h.fr.ns.sameBut hs (Ne.symm hcL), fun b ob e => (hs.2 b fun q => ?_).trans (h.fr.keep b ob e), h.fr.above⟩
      rw [q, hN.2.2] at e; cases e
    · intro p hp
      rcases List.mem_append.mp hp with hp | hp
      · have q := h.nw p (List.mem_append_left _ hp)
        exact ⟨(hs.2 p.1 fun e => h.d1 (c, o) hm p (List.mem_append_left _ hp) e.symm).trans q.1, q.2⟩
      · rcases List.mem_append.mp hp with hp | hp
        · rcases of_mem_updL hp with ⟨rfl, _⟩ | ⟨hp, hne'⟩
          · exact ⟨ho', hN.2⟩
          · have q := h.nw p (by simp [hp])
            exact ⟨(hs.2 p.1 hne').trans q.1, q.2⟩
        · have q := h.nw p (by simp [hp])
          exact ⟨(hs.2 p.1 fun e => h.d1 (c, o) hm p (List.mem_append_right _ hp) e.symm).trans q.1, q.2⟩
    · intro p hp q hq
      rcases of_mem_updL hp with ⟨rfl, _⟩ | ⟨hp, _⟩
      · exact h.d1 (c, o) hm q hq
      · exact h.d1 p hp q hq
    · by_cases hji : j = i
      · subst hji
        rw [u1] at hj; rw [u2] at hs'
        obtain rfl := Option.some.inj hj; obtain rfl := Option.some.inj hs'
        refine hsl _ _ (.inr ⟨hk, c, o', hc, mem_updL_self hm, hd'⟩) fun a ob ha hw => mem_updL_ne ha fun e => ?_
        simp only at e; subst e
        exact hw v₀ (h.uniq ha hm ▸ hdt)
      · rw [u3 j hji] at hs'
        have hy := hne j y hji hj
        have old := h.slots j y sl' hj hs'
        have at' : ∀ w, At F.env m muts y w → At F.env m (updL muts c o') y w := fun w q => by
          rcases q with q | ⟨q1, c', ob, q2, q3, q4⟩
          · exact .inl q
          · exact .inr ⟨q1, c', ob, q2, mem_updL_ne q3 fun e => hy (hF.cinj y x c (e ▸ q2) hc), q4⟩
        cases sl' with
        | undef => trivial
        | dat d => obtain ⟨w, q1, q2⟩ := old; exact ⟨w, at' w q1, q2⟩
        | own ds =>
          rw [hoa j hji]
          obtain ⟨q1, ob, vs, n, r1, r2, r3, r4, r5⟩ := old
          refine ⟨at' _ q1, ob, vs, n, mem_updL_ne r1 fun e => ?_, r2, r3, r4, r5⟩
          simp only at e
          have := h.uniq (e ▸ r1) hm
          rw [this, hdt] at r4; cases r4
    · by_cases hcc : c' = c
      · subst hcc; exact ⟨o', _, mem_updL_self hm, hd'⟩
      · obtain ⟨ob, w, q1, q2⟩ := h.cells y c' hy
        exact ⟨ob, w, mem_updL_ne q1 hcc, q2⟩

theorem store_dat (hF : FxOK C A F) (h : FSt F ρ pin Z s) {x : Str} {d : PyData} {i : Nat} (hu : Upd F.ns ρ x (.dat d) i ρ') {v : Value} (r : Rp Z v d)
    {K : Unit → Shared → Prop} {E : Value → Shared → Prop} (hK : ∀ s', FSt F ρ' pin Z s' → Fwd Z s Z s' → K () s') : wpAny (model C.prog C.w) A (storeName F.env x v) K E s := by
  obtain ⟨m, muts, oa, h⟩ := h
  exact store_gen hF h hu v oa (fun _ _ => rfl) (fun _ _ ha _ => ⟨v, ha, r⟩) (fun ds e => nomatch e) hK

/-! ### the rules -/
theorem ExS.nil {Q : Out → Prop} (hq : Q (.next ρ)) : ExS C A F ρ [] Q := fun pin Z s K hs hK => wpAny_execs_nil (hK _ _ Z s hq ⟨rfl, hs⟩ .refl)
theorem ExS.cons {st : PySem.Stmt} {rest : List PySem.Stmt} {Q : Out → Prop} (h : Ex1 C A F ρ st (Then C A F rest Q)) : ExS C A F ρ (st :: rest) Q := fun pin Z s K hs hK => by
  refine wpAny_execs_cons (h pin Z s _ hs fun o fl Z' s' hq ho hz => ?_)
  cases o with
  | next ρ' =>
    obtain ⟨rfl, hs'⟩ := ho
    exact hq pin Z' s' K hs' fun o fl Z'' s'' q1 q2 q3 => hK o fl Z'' s'' q1 q2 (hz.trans q3)
  | cont ρ' => obtain ⟨rfl, hs'⟩ := ho; exact hK _ _ Z' s' hq ⟨rfl, hs'⟩ hz
  | brk ρ' => obtain ⟨rfl, hs'⟩ := ho; exact hK _ _ Z' s' hq ⟨rfl, hs'⟩ hz
  | ret d => obtain ⟨v, ρ', rfl, r, hs'⟩ := ho; exact hK _ _ Z' s' hq ⟨v, ρ', rfl, r, hs'⟩ hz
theorem ExS.mono {ss : List PySem.Stmt} {Q Q' : Out → Prop} (h : ExS C A F ρ ss Q) (hq : ∀ o, Q o → Q' o) : ExS C A F ρ ss Q' := fun pin Z s K hs hK =>
  h pin Z s K hs fun o fl Z' s' q => hK o fl Z' s' (hq o q)
theorem ExS.weaken {ss : List PySem.Stmt} {Q : Out → Prop} {R : List Slot} (w : Sub R ρ) (h : ExS C A F R ss Q) : ExS C A F ρ ss Q := fun pin Z s K hs hK => h pin Z s K (hs.weaken w) hK

theorem Ex1.assign (hF : FxOK C A F) {x : Str} {px pos : Pos} {e : PySem.Expr} {d : PyData} {i : Nat} {Q : Out → Prop} (he : EvE C A (FS F ρ) F.env e d) (hu : Upd F.ns ρ x (.dat d) i ρ') (hq : Q (.next ρ'))
    (hs : swapsWith e (some (.Name x px)) pos.line F.env = pure false := by rfl) : Ex1 C A F ρ (.Assign [.Name x px] e pos) Q := fun pin Z s K hst hK =>
  wpAny_Assign_Name (he Z s _ _ ⟨pin, hst⟩ fun v Z' s' x r => store_dat hF (hst.ext x) hu r fun s'' h'' w => hK _ _ Z' s'' hq ⟨rfl, h''⟩ (x.fwd.trans w)) hs

theorem Ex1.ret {e : PySem.Expr} {pos : Pos} {d : PyData} {Q : Out → Prop} (he : EvE C A (FS F ρ) F.env e d) (hq : Q (.ret d)) : Ex1 C A F ρ (.Return (some e) pos) Q := fun pin Z s K hst hK =>
  wpAny_Return_some (he Z s _ _ ⟨pin, hst⟩ fun v Z' s' x r => hK _ _ Z' s' hq ⟨v, ρ, rfl, r, hst.ext x⟩ x.fwd)

theorem Ex1.ite {test : PySem.Expr} {body orelse : List PySem.Stmt} {pos : Pos} {b : Bool} {Q : Out → Prop} (hb : EvB C A (FS F ρ) F.env test b) (ht : b = true → ExS C A F ρ body Q) (hf : b = false → ExS C A F ρ orelse Q) :
    Ex1 C A F ρ (.If test body orelse pos) Q := fun pin Z s K hst hK => by
  refine wpAny_If (hb Z s _ _ ⟨pin, hst⟩ fun Z' s' x => ?_)
  have go : ∀ o fl Z'' s'', Q o → OutAt F pin o fl Z'' s'' → Fwd Z' s' Z'' s'' → K fl s'' := fun o fl Z'' s'' q1 q2 q3 => hK o fl Z'' s'' q1 q2 (x.fwd.trans q3)
  cases b with
  | true => exact ht rfl pin Z' s' K (hst.ext x) go
  | false => exact hf rfl pin Z' s' K (hst.ext x) go

theorem Ex1.continue_ {pos : Pos} {Q : Out → Prop} (hq : Q (.cont ρ)) : Ex1 C A F ρ (.Continue pos) Q := fun pin Z s K hst hK => by
  rw [arm_exec_Continue]
  exact wpAny_bind (wpAny_standAt (wpAny_pure (hK _ _ Z s hq ⟨rfl, hst⟩ .refl)))

/-- an expression for its effect (none) -/
theorem Ex1.expr {e : PySem.Expr} {pos : Pos} {d : PyData} {Q : Out → Prop} (he : EvE C A (FS F ρ) F.env e d) (hq : Q (.next ρ))
    (hi : interactive F.env = false := by rfl) (hs : swapsWith e none pos.line F.env = pure false := by rfl) : Ex1 C A F ρ (.Expr e pos) Q := fun pin Z s K hst hK =>
  wpAny_Expr_any (he Z s _ _ ⟨pin, hst⟩ fun v Z' s' x _ => hK _ _ Z' s' hq ⟨rfl, hst.ext x⟩ x.fwd) hi hs

/-! ### targets -/
theorem Asg.name (hF : FxOK C A F) {x : Str} {px : Pos} {d : PyData} {i : Nat} (hu : Upd F.ns ρ x (.dat d) i ρ') : Asg C A F ρ (.Name x px) d ρ' := fun pin Z s v K hst r hK =>
  wpAny_assign_Name (store_dat hF hst hu r fun s' h' w => hK Z s' h' w)
inductive AsgL (ns : List Str) : List Slot → List PySem.Expr → List PyData → List Slot → Prop
  | nil {ρ : List Slot} : AsgL ns ρ [] [] ρ
  | cons {ρ ρ₁ ρ' : List Slot} {x : Str} {px : Pos} {d : PyData} {i : Nat} {ts : List PySem.Expr} {ds : List PyData} : Upd ns ρ x (.dat d) i ρ₁ → AsgL ns ρ₁ ts ds ρ' → AsgL ns ρ (.Name x px :: ts) (d :: ds) ρ'
theorem AsgL.shape {ns : List Str} {ts : List PySem.Expr} {ds : List PyData} (h : AsgL ns ρ ts ds ρ') (env : Env) : (assignEach ts env).length = ds.length ∧ (assignEach ts env).findIdx? (·.1) = none := by
  induction h with
  | nil => exact ⟨rfl, rfl⟩
  | cons _ _ ih =>
    refine ⟨?_, ?_⟩
    · show (assignEach _ env).length + 1 = _
      rw [ih.1]; rfl
    · show ((false, _) :: assignEach _ env).findIdx? (·.1) = none
      rw [List.findIdx?_cons, ih.2]; rfl
theorem AsgL.ok (hF : FxOK C A F) {ts : List PySem.Expr} {ds : List PyData} (h : AsgL F.ns ρ ts ds ρ') : ∀ {pin Z : Led} {s : Shared} {vs : List Value} {K : Unit → Shared → Prop} {E : Value → Shared → Prop}, FSt F ρ pin Z s → Rps Z vs ds →
    (∀ s', FSt F ρ' pin Z s' → Fwd Z s Z s' → K () s') → wpAny (model C.prog C.w) A (assignInOrder ((assignEach ts F.env).map (·.2)) vs) K E s := by
  induction h with
  | nil =>
    intro pin Z s vs K E hst r hK
    cases r
    exact wpAny_pure (hK s hst .refl)
  | cons hu _ ih =>
    intro pin Z s vs K E hst r hK
    cases r with
    | cons r1 r2 =>
      show wpAny _ A (do holding _ (assign (.Name _ _) F.env _); assignInOrder _ _) K E s
      exact wpAny_bind (wpAny_holding (wpAny_assign_Name (store_dat hF hst hu r1 fun s' h' w => ih h' r2 fun s'' h'' w' => hK s'' h'' (w.trans w'))))
theorem Asg.tuple (hF : FxOK C A F) (hh : A.handled = none) {ts : List PySem.Expr} {ds : List PyData} {k : Nat} {pos : Pos} (h : AsgL F.ns ρ ts ds ρ') : Asg C A F ρ (.Tuple ts k pos) (.tuple ds) ρ' := fun pin Z s v K hst r hK => by
  have H : HasL s.heap Z := by obtain ⟨_, _, _, q⟩ := hst; exact q.has
  obtain ⟨a, vs, rfl, ht, q⟩ := r.tupleAt H
  have l := q.length
  refine wpAny_assign_Tuple hh ht (by rw [(h.shape F.env).1, List.size_toArray, l]) (h.shape F.env).2 fun h' hx => ?_
  have x : Ext Z s Z { s with heap := h', toks := s.toks } := .grow fun b o e => hx b o (Nat.ne_of_lt (Heap.lt_size e)) e
  exact h.ok hF (hst.ext x) q fun s' h'' w => hK Z s' h'' (x.fwd.trans w)

theorem Ex1.unpack (hF : FxOK C A F) (hh : A.handled = none) {ts : List PySem.Expr} {k : Nat} {tp pos : Pos} {e : PySem.Expr} {ds : List PyData} {Q : Out → Prop} (he : EvE C A (FS F ρ) F.env e (.tuple ds)) (hu : AsgL F.ns ρ ts ds ρ') (hq : Q (.next ρ'))
    (hs : swapsWithSole [.Tuple ts k tp] e pos.line F.env = pure false := by rfl) (hw : swappedStores [.Tuple ts k tp] e F.env = pure none := by rfl) : Ex1 C A F ρ (.Assign [.Tuple ts k tp] e pos) Q := fun pin Z s K hst hK =>
  PyProof.Rows.Assign_Tuple (he Z s _ _ ⟨pin, hst⟩ fun v Z' s' x r => (Asg.tuple hF hh hu) pin Z' s' v _ (hst.ext x) r fun Z'' s'' h'' hz => hK _ _ Z'' s'' hq ⟨rfl, h''⟩ (x.fwd.trans hz)) hs hw

/-! ### owned lists -/
/-- a list display that the frame keeps as its own -/
theorem Ex1.assignOwn (hF : FxOK C A F) {x : Str} {px pos lp : Pos} {es : List PySem.Expr} {ds : List PyData} {i : Nat} {Q : Out → Prop} (he : EvEs C A (FS F ρ) F.env es ds) (hu : Upd F.ns ρ x (.own ds) i ρ') (hq : Q (.next ρ')) (hz : ds.length ≤ 2 ^ 20 := by decide)
    (hs : swapsWith (.List es lp) (some (.Name x px)) pos.line F.env = pure false := by rfl) : Ex1 C A F ρ (.Assign [.Name x px] (.List es lp) pos) Q := fun pin Z s K hst hK => by
  refine wpAny_Assign_Name (List_ (he lp Z s _ _ ⟨pin, hst⟩ fun vs Z' s' y r => wpAny_newList ?_ (by rw [r.length, sizeLine_eq]; omega))) hs
  obtain ⟨m, muts, oa, h⟩ := hst.ext y
  have fresh := fresh_get s'.heap
  obtain ⟨oL, _, _, hL, _⟩ := id h.fr.ns
  have h2 : FIn F ρ pin Z' { s' with heap := s'.heap.push { cls := .type "list", data := .seq vs.toArray } } m ((s'.heap.objs.size, { cls := .type "list", data := .seq vs.toArray }) :: muts) oa := by
    refine ⟨h.fr.push _, fun p hp => ?_, fun p hp q hq' => ?_, h.d2, fun j y' sl hj hs' => ?_, h.inj, fun y' c hc => ?_⟩
    · rcases List.mem_append.mp hp with hp | hp
      · have q := h.nw p (List.mem_append_left _ hp); exact ⟨Heap.get?_push_of_some _ q.1, q.2⟩
      · rcases List.mem_append.mp hp with hp | hp
        · rcases List.mem_cons.mp hp with rfl | hp
          · exact ⟨Heap.get?_push_size _ rfl, (fun e => by simp only at e; rw [e, hL] at fresh; cases fresh), none_of_keep h.fr.keep fresh⟩
          · have q := h.nw p (by simp [hp]); exact ⟨Heap.get?_push_of_some _ q.1, q.2⟩
        · have q := h.nw p (by simp [hp]); exact ⟨Heap.get?_push_of_some _ q.1, q.2⟩
    · rcases List.mem_cons.mp hp with rfl | hp
      · intro e
        simp only at e
        have : s'.heap.get? q.1 = some q.2 := by
          rcases List.mem_append.mp hq' with r | r
          · exact (h.nw q (List.mem_append_left _ r)).1
          · exact (h.nw q (by simp [r])).1
        rw [← e, fresh] at this; cases this
      · exact h.d1 p hp q hq'
    · have old := h.slots j y' sl hj hs'
      cases sl with
      | undef => trivial
      | dat d => obtain ⟨w, q1, q2⟩ := old; exact ⟨w, q1.mono fun c o _ hm _ => .tail _ hm, q2⟩
      | own ds => obtain ⟨q1, ob, vs, n, r1, r2⟩ := old; exact ⟨q1.mono fun c o _ hm _ => .tail _ hm, ob, vs, n, .tail _ r1, r2⟩
    · obtain ⟨o, v, q1, q2⟩ := h.cells y' c hc; exact ⟨o, v, .tail _ q1, q2⟩
  refine store_gen hF h2 hu (.ref s'.heap.objs.size) (fun j => if j = i then s'.heap.objs.size else oa j) (fun j hj => by simp [hj]) (fun m' muts' ha hk => ?_) (fun ds' _ j y' es hj hy' hes e => ?_) fun s'' h'' w => hK _ _ Z' s'' hq ⟨rfl, h''⟩ (y.fwd.trans (.trans (.at (tk := s'.toks)) w))
  · simp only [if_true]
    exact ⟨ha, _, vs, 0, hk _ _ (.head _) (fun w => by simp), rfl, rfl, rfl, r⟩
  · simp only [if_true] at e
    obtain ⟨_, ob, vs', n, r1, _⟩ := h.slots j y' _ hy' hes
    have := (h.nw (oa j, ob) (by simp [r1])).1
    simp only at this
    rw [e, fresh] at this; cases this

/-- the frame's own list gains an item -/
theorem Ex1.append (hF : FxOK C A F) {x : Str} {np apos cpos pos : Pos} {e : PySem.Expr} {d : PyData} {ds : List PyData} {i i' : Nat} {Q : Out → Prop} (hv : Var F.ns ρ x i (.own ds)) (he : EvE C A (FS F ρ) F.env e d) (hu : Upd F.ns ρ x (.own (ds ++ [d])) i' ρ')
    (hq : Q (.next ρ')) (hz : ds.length ≤ 2 ^ 20)
    (hi : interactive F.env = false := by rfl) (hs : swapsWith (.Call (.Attribute (.Name x np) "append" apos) [e] [] cpos) none pos.line F.env = pure false := by rfl)
    (hbase : attributeBase (.Name x np) "append" F.env (eval (.Name x np) F.env) = eval (.Name x np) F.env := by rfl)
    (hfew : ((backTo cpos (starEach [e] F.env)).all (fun x => !x.1) && (backToKw cpos (keywordEach [] F.env)).all (fun x => x.1.isSome)
      && decide (([e] : List PySem.Expr).length + ([] : List Keyword).length + (if ([] : List Keyword).isEmpty then 0 else 1) < 30)) = true := by rfl)
    (hline : (apos.endLine == cpos.line) = true := by rfl) (htrees : backTo cpos (starEach [e] F.env) = [(false, eval e F.env)] := by rfl) :
    Ex1 C A F ρ (.Expr (.Call (.Attribute (.Name x np) "append" apos) [e] [] cpos) pos) Q := fun pin Z s K hst hK => by
  have hst₀ := hst
  obtain ⟨m, muts, oa, h⟩ := hst
  obtain ⟨h1, o, vs, n, m1, m2, m3, m4, m5⟩ := h.slots i x _ hv.at.1 hv.at.2
  obtain rfl : i = i' := nodup_idx hF.nd hv.at.1 hu.at.1
  refine wpAny_Expr_any (wpAny_Call_append hbase hfew hline htrees (load_at hF h (mem_of_get hv.at.1) h1 ⟨oa i, vs.toArray, rfl, ⟨o, n, (h.nw (oa i, o) (by simp [m1])).1, m2, m3, m4⟩, he Z s _ _ ⟨pin, hst₀⟩ fun v Z' s' y r => ?_⟩)) hi hs
  have h' := h.ext y
  have ho := (h'.nw (oa i, o) (by simp [m1]))
  have l := m5.length
  refine list_append_plainL (its := vs.toArray) ⟨o, n, ho.1, m2, m3, m4⟩ (fun hp hpl hsb => ?_) (by rw [List.size_toArray, l, sizeLine_eq]; omega)
  obtain ⟨o', n', ho', c', d', dt'⟩ := hpl
  obtain ⟨u1, u2, u3⟩ := hu.at
  have hL : oa i ≠ F.L := ho.2.1
  refine hK _ _ Z' _ hq ⟨rfl, m, updL muts (oa i) o', oa, ?_, ?_, ?_, h'.d2, fun j y' sl hj hs' => ?_, ?_, fun y' c hc => ?_⟩ (y.fwd.trans (.at (tk := s'.toks)))
  · refine ⟨h'.fr.ns.sameBut hsb (Ne.symm hL), fun b ob e => (hsb.2 b fun q => ?_).trans (h'.fr.keep b ob e), h'.fr.above⟩
    rw [q, ho.2.2] at e; cases e
  · intro p hp'
    rcases List.mem_append.mp hp' with hp' | hp'
    · have q := h'.nw p (List.mem_append_left _ hp')
      exact ⟨(hsb.2 p.1 fun e => h'.d1 (oa i, o) m1 p (List.mem_append_left _ hp') e.symm).trans q.1, q.2⟩
    · rcases List.mem_append.mp hp' with hp' | hp'
      · rcases of_mem_updL hp' with ⟨rfl, _⟩ | ⟨hp', hne'⟩
        · exact ⟨ho', ho.2⟩
        · have q := h'.nw p (by simp [hp'])
          exact ⟨(hsb.2 p.1 hne').trans q.1, q.2⟩
      · have q := h'.nw p (by simp [hp'])
        exact ⟨(hsb.2 p.1 fun e => h'.d1 (oa i, o) m1 p (List.mem_append_right _ hp') e.symm).trans q.1, q.2⟩
  · intro p hp' q hq'
    rcases of_mem_updL hp' with ⟨rfl, _⟩ | ⟨hp', _⟩
    · exact h'.d1 (oa i, o) m1 q hq'
    · exact h'.d1 p hp' q hq'
  · have at' : ∀ z w, At F.env m muts z w → At F.env m (updL muts (oa i) o') z w := fun z w q => q.mono fun c ob w' hm hd => mem_updL_ne hm fun e => by
      simp only at e
      have := h'.uniq (e ▸ hm) m1
      rw [this, m4] at hd; cases hd
    by_cases hji : j = i
    · subst hji
      rw [u1] at hj; rw [u2] at hs'
      obtain rfl := Option.some.inj hj; obtain rfl := Option.some.inj hs'
      refine ⟨at' _ _ h1, o', vs ++ [v], n', mem_updL_self m1, c', d', ?_, ?_⟩
      · rw [dt']; simp
      · exact (m5.mono y.sub).append (.one r)
    · rw [u3 j hji] at hs'
      have old := h'.slots j y' sl hj hs'
      cases sl with
      | undef => trivial
      | dat d => obtain ⟨w, q1, q2⟩ := old; exact ⟨w, at' _ _ q1, q2⟩
      | own es =>
        obtain ⟨q1, ob, ws, k, r1, r2⟩ := old
        exact ⟨at' _ _ q1, ob, ws, k, mem_updL_ne r1 fun e => hji (h'.inj j i y' x es ds hj u1 hs' hv.at.2 e), r2⟩
  · intro j k y' z es fs hy hz' hj hk e
    have old : ∀ (j : Nat) (es : List PyData), ρ'[j]? = some (Slot.own es) → ∃ es, ρ[j]? = some (Slot.own es) := fun j es hj => by
      by_cases hji : j = i
      · subst hji; exact ⟨ds, hv.at.2⟩
      · rw [u3 j hji] at hj; exact ⟨es, hj⟩
    obtain ⟨es1, q1⟩ := old j es hj
    obtain ⟨es2, q2⟩ := old k fs hk
    exact h'.inj j k y' z es1 es2 hy hz' q1 q2 e
  · by_cases hcc : c = oa i
    · obtain ⟨ob, w, q1, q2⟩ := h'.cells y' c hc
      subst hcc
      have := h'.uniq q1 m1
      rw [this, m4] at q2; cases q2
    · obtain ⟨ob, w, q1, q2⟩ := h'.cells y' c hc
      exact ⟨ob, w, mem_updL_ne q1 hcc, q2⟩

/-- an owned list becomes data -/
theorem FSt.freeze (hF : FxOK C A F) (h : FSt F ρ pin Z s) {x : Str} {ds : List PyData} {i i' : Nat} (hv : Var F.ns ρ x i (.own ds)) (hu : Upd F.ns ρ x (.dat (.list ds)) i' ρ') : ∃ Z', (∀ p ∈ Z, p ∈ Z') ∧ FSt F ρ' pin Z' s := by
  obtain ⟨m, muts, oa, h⟩ := h
  obtain ⟨h1, o, vs, n, m1, m2, m3, m4, m5⟩ := h.slots i x _ hv.at.1 hv.at.2
  obtain rfl : i = i' := nodup_idx hF.nd hv.at.1 hu.at.1
  obtain ⟨u1, u2, u3⟩ := hu.at
  refine ⟨(oa i, o) :: Z, fun p hp => .tail _ hp, m, muts.filter (fun p => p.1 ≠ oa i), oa, h.fr, fun p hp => ?_, fun p hp q hq => ?_, fun p hp q hq => ?_, fun j y sl hj hs' => ?_, ?_, fun y c hc => ?_⟩
  · rcases List.mem_append.mp hp with hp | hp
    · exact h.nw p (by simp [hp])
    · rcases List.mem_append.mp hp with hp | hp
      · exact h.nw p (by simp [(List.mem_filter.mp hp).1])
      · rcases List.mem_cons.mp hp with rfl | hp
        · exact h.nw _ (by simp [m1])
        · exact h.nw p (by simp [hp])
  · obtain ⟨hp1, hp2⟩ := List.mem_filter.mp hp
    rcases List.mem_append.mp hq with hq | hq
    · exact h.d1 p hp1 q (by simp [hq])
    · rcases List.mem_cons.mp hq with rfl | hq
      · simpa using hp2
      · exact h.d1 p hp1 q (by simp [hq])
  · rcases List.mem_cons.mp hq with rfl | hq
    · exact fun e => h.d1 (oa i, o) m1 p (by simp [hp]) e.symm
    · exact h.d2 p hp q hq
  · have at' : ∀ z w, At F.env m muts z w → At F.env m (muts.filter (fun p => p.1 ≠ oa i)) z w := fun z w q => q.mono fun c ob w' hm hd => List.mem_filter.mpr ⟨hm, by
      simp only [ne_eq, decide_eq_true_eq]
      intro e
      have := h.uniq (e ▸ hm) m1
      rw [this, m4] at hd; cases hd⟩
    by_cases hji : j = i
    · subst hji
      rw [u1] at hj; rw [u2] at hs'
      obtain rfl := Option.some.inj hj; obtain rfl := Option.some.inj hs'
      exact ⟨_, at' _ _ h1, .list (.head _) m2 m4 (m5.mono fun p hp => .tail _ hp)⟩
    · rw [u3 j hji] at hs'
      have old := h.slots j y sl hj hs'
      cases sl with
      | undef => trivial
      | dat d => obtain ⟨w, q1, q2⟩ := old; exact ⟨w, at' _ _ q1, q2.mono fun p hp => .tail _ hp⟩
      | own es =>
        obtain ⟨q1, ob, ws, k, r1, r2, r3, r4, r5⟩ := old
        exact ⟨at' _ _ q1, ob, ws, k, List.mem_filter.mpr ⟨r1, by simpa using fun e => hji (h.inj j i y x es ds hj u1 hs' hv.at.2 e)⟩, r2, r3, r4, r5.mono fun p hp => .tail _ hp⟩
  · intro j k y z es fs hy hz' hj hk e
    have ne : ∀ (j : Nat) (es : List PyData), ρ'[j]? = some (Slot.own es) → j ≠ i := fun j es hj q => by subst q; rw [u2] at hj; cases hj
    rw [u3 j (ne j es hj)] at hj
    rw [u3 k (ne k fs hk)] at hk
    exact h.inj j k y z es fs hy hz' hj hk e
  · obtain ⟨ob, w, q1, q2⟩ := h.cells y c hc
    refine ⟨ob, w, List.mem_filter.mpr ⟨q1, ?_⟩, q2⟩
    simp only [ne_eq, decide_eq_true_eq]
    intro e
    have := h.uniq (e ▸ q1) m1
    rw [this, m4] at q2; cases q2
theorem ExS.freeze (hF : FxOK C A F) {x : Str} {ds : List PyData} {i i' : Nat} {ss : List PySem.Stmt} {Q : Out → Prop} (hv : Var F.ns ρ x i (.own ds)) (hu : Upd F.ns ρ x (.dat (.list ds)) i' ρ') (h : ExS C A F ρ' ss Q) : ExS C A F ρ ss Q := fun pin Z s K hst hK => by
  obtain ⟨Z', hz, h'⟩ := hst.freeze hF hv hu
  exact h pin Z' s K h' fun o fl Z'' s'' q1 q2 q3 => hK o fl Z'' s'' q1 q2 (.trans (.led hz) q3)
end
end Mine

namespace Mine
open PySem PySem.W PySem.Spec PySem.Calls PyProof.Rows

/-- what a turn must leave -/
noncomputable def LoopQ (R : List Slot) (Q : Out → Prop) : Out → Prop
  | .next ρ => Sub R ρ
  | .cont ρ => Sub R ρ
  | .brk ρ => Q (.next ρ)
  | .ret d => Q (.ret d)

theorem LoopQ.next {R ρ : List Slot} {Q : Out → Prop} (h : Sub R ρ) : LoopQ R Q (.next ρ) := h
theorem LoopQ.cont {R ρ : List Slot} {Q : Out → Prop} (h : Sub R ρ) : LoopQ R Q (.cont ρ) := h
theorem LoopQ.ret {R : List Slot} {d : PyData} {Q : Out → Prop} (h : Q (.ret d)) : LoopQ R Q (.ret d) := h

section
variable {C : Cx} {A : Around} {F : Fx} {ρ ρ' : List Slot} {pin Z : Led} {s : Shared}

/-- pins that moved (an iterator's own objects); all else stood; the ledger gained new objects -/
theorem FSt.moved {ws ws' : Led} {Z' : Led} {s' : Shared} (h : FSt F ρ (ws ++ pin) Z s)
    (hk : ∀ b o, b ∉ ws.map (·.1) → s.heap.get? b = some o → s'.heap.get? b = some o) (hw : ∀ p ∈ ws', s'.heap.get? p.1 = some p.2 ∧ p.1 ∈ ws.map (·.1))
    (hd : ∀ p ∈ pin ++ Z, p.1 ∉ ws.map (·.1)) (sub : ∀ p ∈ Z, p ∈ Z') (hnew : ∀ p ∈ Z', p ∈ Z ∨ (s.heap.get? p.1 = none ∧ s'.heap.get? p.1 = some p.2)) : FSt F ρ (ws' ++ pin) Z' s' := by
  obtain ⟨m, muts, oa, h⟩ := h
  have wsN : ∀ b, b ∈ ws.map (·.1) → (∃ o, s.heap.get? b = some o) ∧ b ≠ F.L ∧ F.h₀.get? b = none := fun b hb => by
    obtain ⟨p, hp, rfl⟩ := List.mem_map.mp hb
    have := h.nw p (by simp [hp])
    exact ⟨⟨p.2, this.1⟩, this.2⟩
  have hL : F.L ∉ ws.map (·.1) := fun q => (wsN _ q).2.1 rfl
  have muts_off : ∀ p ∈ muts, p.1 ∉ ws.map (·.1) := fun p hp q => by
    obtain ⟨r, hr, e⟩ := List.mem_map.mp q
    exact h.d1 p hp r (by simp [hr]) e.symm
  refine ⟨m, muts, oa, ⟨?_, fun b o e => hk b o (fun q => ?_) (h.fr.keep b o e), h.fr.above⟩, fun p hp => ?_, fun p hp q hq => ?_, fun p hp q hq => ?_, fun i x sl hi hs => (h.slots i x sl hi hs).ext sub, h.inj, h.cells⟩
  · exact h.fr.ns.at' fun o e => hk _ o hL e
  · rw [(wsN b q).2.2] at e; cases e
  · rcases List.mem_append.mp hp with hp | hp
    · rcases List.mem_append.mp hp with hp | hp
      · have q := hw p hp
        exact ⟨q.1, (wsN _ q.2).2⟩
      · have q := h.nw p (by simp [hp])
        exact ⟨hk _ _ (hd p (by simp [hp])) q.1, q.2⟩
    · rcases List.mem_append.mp hp with hp | hp
      · have q := h.nw p (by simp [hp])
        exact ⟨hk _ _ (muts_off p hp) q.1, q.2⟩
      · rcases hnew p hp with q | ⟨q1, q2⟩
        · have r := h.nw p (by simp [q])
          exact ⟨hk _ _ (hd p (by simp [q])) r.1, r.2⟩
        · refine ⟨q2, fun e => ?_, none_of_keep h.fr.keep q1⟩
          obtain ⟨oL, _, _, hL', _⟩ := h.fr.ns
          rw [e, hL'] at q1; cases q1
  · rcases List.mem_append.mp hq with hq | hq
    · rcases List.mem_append.mp hq with hq | hq
      · intro e
        exact muts_off p hp (e ▸ (hw q hq).2)
      · exact h.d1 p hp q (by simp [hq])
    · rcases hnew q hq with r | ⟨r1, r2⟩
      · exact h.d1 p hp q (by simp [r])
      · intro e
        have := (h.nw p (by simp [hp])).1
        rw [e, r1] at this; cases this
  · rcases List.mem_append.mp hp with hp | hp
    · have w := (hw p hp).2
      rcases hnew q hq with r | ⟨r1, r2⟩
      · exact fun e => hd q (by simp [r]) (e ▸ w)
      · intro e
        obtain ⟨o, ho⟩ := (wsN _ w).1
        rw [e, r1] at ho; cases ho
    · rcases hnew q hq with r | ⟨r1, r2⟩
      · exact h.d2 p (by simp [hp]) q r
      · intro e
        have := (h.nw p (by simp [hp])).1
        rw [e, r1] at this; cases this

/-- a new object becomes a pin -/
theorem FSt.pinNew {a : Addr} {o : Obj} {s' : Shared} (h : FSt F ρ pin Z s) (hk : ∀ b o, s.heap.get? b = some o → s'.heap.get? b = some o) (hn : s.heap.get? a = none) (ho : s'.heap.get? a = some o) :
    FSt F ρ ((a, o) :: pin) Z s' := by
  obtain ⟨m, muts, oa, h⟩ := h
  refine ⟨m, muts, oa, ⟨h.fr.ns.keeps hk, fun b o e => hk b o (h.fr.keep b o e), h.fr.above⟩, fun p hp => ?_, fun p hp q hq => ?_, fun p hp q hq => ?_, h.slots, h.inj, h.cells⟩
  · rcases List.mem_append.mp hp with hp | hp
    · rcases List.mem_cons.mp hp with rfl | hp
      · refine ⟨ho, fun e => ?_, none_of_keep h.fr.keep hn⟩
        obtain ⟨oL, _, _, hL', _⟩ := h.fr.ns
        simp only at e
        rw [e, hL'] at hn; cases hn
      · have q := h.nw p (by simp [hp]); exact ⟨hk _ _ q.1, q.2⟩
    · have q := h.nw p (List.mem_append_right _ hp); exact ⟨hk _ _ q.1, q.2⟩
  · rcases List.mem_append.mp hq with hq | hq
    · rcases List.mem_cons.mp hq with rfl | hq
      · intro e
        simp only at e
        have := (h.nw p (by simp [hp])).1
        rw [e, hn] at this; cases this
      · exact h.d1 p hp q (by simp [hq])
    · exact h.d1 p hp q (by simp [hq])
  · rcases List.mem_cons.mp hp with rfl | hp
    · intro e
      simp only at e
      have := (h.nw q (by simp [hq])).1
      rw [← e, hn] at this; cases this
    · exact h.d2 p hp q hq
theorem FSt.unpin {ws : Led} (h : FSt F ρ (ws ++ pin) Z s) : FSt F ρ pin Z s := by
  obtain ⟨m, muts, oa, h⟩ := h
  refine ⟨m, muts, oa, h.fr, fun p hp => h.nw p ?_, fun p hp q hq => h.d1 p hp q ?_, fun p hp q hq => h.d2 p (by simp [hp]) q hq, h.slots, h.inj, h.cells⟩
  · rcases List.mem_append.mp hp with hp | hp
    · simp [hp]
    · simp only [List.mem_append] at hp ⊢; exact .inr hp
  · rcases List.mem_append.mp hq with hq | hq
    · simp [hq]
    · simp [hq]
theorem FSt.pins (h : FSt F ρ pin Z s) : ∀ p ∈ pin ++ Z, s.heap.get? p.1 = some p.2 := by
  obtain ⟨m, muts, oa, h⟩ := h
  intro p hp
  rcases List.mem_append.mp hp with hp | hp
  · exact (h.nw p (by simp [hp])).1
  · exact (h.nw p (by simp [hp])).1

/-- how an iterator walks: n items, its own objects at wr -/
structure Itr (C : Cx) (A : Around) (target : PySem.Expr) (I : Addr) (wr fp : List Addr) (n : Nat) (item : Nat → PyData) (StI : Nat → Heap → Prop) (Z₀ : Led) : Prop where
  frame : ∀ i h h', StI i h → (∀ b ∈ fp, ∀ o, h.get? b = some o → h'.get? b = some o) → StI i h'
  live : ∀ i h, StI i h → ∀ b ∈ wr, ∃ o, h.get? b = some o
  foot : ∀ b ∈ fp, b ∈ wr ∨ ∃ o, (b, o) ∈ Z₀
  next : ∀ i Z s (K : Value → Shared → Prop), i < n → StI i s.heap → HasL s.heap Z → (∀ p ∈ Z₀, p ∈ Z) → (∀ p ∈ Z, p.1 ∉ wr) →
    (∀ v Z' h' tk, StI (i + 1) h' → (∀ b o, b ∉ wr → s.heap.get? b = some o → h'.get? b = some o) → (∀ p ∈ Z, p ∈ Z') → (∀ p ∈ Z', p ∈ Z ∨ (s.heap.get? p.1 = none ∧ h'.get? p.1 = some p.2)) → Rp Z' v (item i) → K v { s with heap := h', toks := tk }) →
    wpAny (model C.prog C.w) A (pyNext (.ref I)) (fun r s₁ => match r with
      | none => False
      | some v => wpAny (model C.prog C.w) A (letOwnedTupleGo target (.ref I) v) (fun _ s₂ => K v s₂) (fun _ _ => False) s₁) (fun _ _ => False) s
  done : ∀ (s : Shared) (K : Option Value → Shared → Prop), StI n s.heap → (∀ h' tk, (∀ b o, b ∉ wr → s.heap.get? b = some o → h'.get? b = some o) → K none { s with heap := h', toks := tk }) →
    wpAny (model C.prog C.w) A (pyNext (.ref I)) K (fun _ _ => False) s

theorem objs_at {h : Heap} : ∀ {wr : List Addr}, (∀ b ∈ wr, ∃ o, h.get? b = some o) → ∃ ws : Led, ws.map (·.1) = wr ∧ ∀ p ∈ ws, h.get? p.1 = some p.2
  | [], _ => ⟨[], rfl, fun _ hp => nomatch hp⟩
  | b :: r, hl => by
    obtain ⟨o, ho⟩ := hl b (.head _)
    obtain ⟨ws, e, hw⟩ := objs_at (wr := r) fun c hc => hl c (.tail _ hc)
    refine ⟨(b, o) :: ws, by simp [e], fun p hp => ?_⟩
    rcases List.mem_cons.mp hp with rfl | hp
    · exact ho
    · exact hw p hp

theorem loop_core (hF : FxOK C A F) {target : PySem.Expr} {I : Addr} {wr fp : List Addr} {n : Nat} {item : Nat → PyData} {StI : Nat → Heap → Prop} {Z₀ : Led} (W : Itr C A target I wr fp n item StI Z₀) {body : List PySem.Stmt}
    (P : Nat → List Slot) {Q : Out → Prop} {ws : Led} (hws : ws.map (·.1) = wr) (hst : FSt F (P 0) (ws ++ pin) Z₀ s) (hd : ∀ p ∈ pin ++ Z₀, p.1 ∉ wr) (h0 : StI 0 s.heap)
    (turn : ∀ k, k < n → ∃ ρ', Asg C A F (P k) target (item k) ρ' ∧ ExS C A F ρ' body (LoopQ (P (k + 1)) Q)) (done : Q (.next (P n)))
    {R : Result → Shared → Prop} (hR : ∀ o fl Z' s', Q o → OutAt F pin o fl Z' s' → Fwd Z₀ s Z' s' → R (.ok fl) s') : codeAny (model C.prog C.w) A (.forLoop target (.ref I) body [] F.env) R s := by
  refine codeAny_forLoop_any (fun j s' => ∃ k ws' Z', j = n + 1 - k ∧ k ≤ n ∧ ws'.map (·.1) = wr ∧ FSt F (P k) (ws' ++ pin) Z' s' ∧ Fwd Z₀ s Z' s' ∧ (∀ p ∈ pin ++ Z', p.1 ∉ wr) ∧ StI k s'.heap) ?_ (n + 1)
    ⟨0, ws, Z₀, rfl, Nat.zero_le _, hws, hst, .refl, hd, h0⟩
  rintro j s' ⟨k, ws', Z', rfl, hk, hws', hst', hz', hd', hI⟩
  have H : HasL s'.heap Z' := fun p hp => hst'.pins p (by simp [hp])
  by_cases hlt : k < n
  · refine wpAny_mono (W.next k Z' s' (fun v s₂ => ∃ Z₂ h' tk, s₂ = { s' with heap := h', toks := tk } ∧ StI (k + 1) h' ∧ (∀ b o, b ∉ wr → s'.heap.get? b = some o → h'.get? b = some o) ∧ (∀ p ∈ Z', p ∈ Z₂) ∧ (∀ p ∈ Z₂, p ∈ Z' ∨ (s'.heap.get? p.1 = none ∧ h'.get? p.1 = some p.2)) ∧ Rp Z₂ v (item k))
      hlt hI H hz'.sub (fun p hp => hd' p (by simp [hp])) fun v Z₂ h' tk a1 a2 a3 a4 a5 => ⟨Z₂, h', tk, rfl, a1, a2, a3, a4, a5⟩) (fun r s₁ hr => ?_) fun _ _ x => x.elim
    cases r with
    | none => exact hr.elim
    | some v =>
      refine wpAny_mono hr (fun _ s₂ h₂ => ?_) fun _ _ x => x.elim
      obtain ⟨Z₂, h', tk, rfl, a1, a2, a3, a4, a5⟩ := h₂
      obtain ⟨ws₂, e₂, hw₂⟩ := objs_at (W.live (k + 1) h' a1)
      have hst₂ : FSt F (P k) (ws₂ ++ pin) Z₂ { s' with heap := h', toks := tk } := hst'.moved (fun b o hb => a2 b o (hws' ▸ hb)) (fun p hp => ⟨hw₂ p hp, by rw [hws', ← e₂]; exact List.mem_map_of_mem hp⟩) (fun p hp => by rw [hws']; exact hd' p hp) a3 a4
      have hd₂ : ∀ p ∈ pin ++ Z₂, p.1 ∉ wr := fun p hp => by
        rcases List.mem_append.mp hp with hp | hp
        · exact hd' p (by simp [hp])
        · rcases a4 p hp with q | ⟨q, _⟩
          · exact hd' p (by simp [q])
          · intro hb
            obtain ⟨o, ho⟩ := W.live k _ hI p.1 hb
            rw [q] at ho; cases ho
      obtain ⟨ρ', hasg, hbody⟩ := turn k hlt
      refine wpAny_mono (hasg (ws₂ ++ pin) Z₂ _ v _ hst₂ a5 fun Z₃ s₃ hst₃ hz₃ => ?_) (fun _ _ x => x) fun _ _ x => x.elim
      refine wpAny_mono (hbody (ws₂ ++ pin) Z₃ s₃ (fun f s₄ => ∃ o Z₄, LoopQ (P (k + 1)) Q o ∧ OutAt F (ws₂ ++ pin) o f Z₄ s₄ ∧ Fwd Z₃ s₃ Z₄ s₄) hst₃ fun o fl Z₄ s₄ q1 q2 q3 => ⟨o, Z₄, q1, q2, q3⟩) (fun f s₄ h₄ => ?_) fun _ _ x => x.elim
      obtain ⟨o, Z₄, q1, q2, q3⟩ := h₄
      have hz₄ : Fwd Z₀ s Z₄ s₄ := hz'.trans (.trans (Z' := Z₂) ⟨⟨h', tk, rfl⟩, a3⟩ (hz₃.trans q3))
      have more : ∀ R', FSt F R' (ws₂ ++ pin) Z₄ s₄ → Sub (P (k + 1)) R' → ∃ mm, mm < n + 1 - k ∧ ∃ k' ws' Z', mm = n + 1 - k' ∧ k' ≤ n ∧ ws'.map (·.1) = wr ∧ FSt F (P k') (ws' ++ pin) Z' s₄ ∧ Fwd Z₀ s Z' s₄ ∧ (∀ p ∈ pin ++ Z', p.1 ∉ wr) ∧ StI k' s₄.heap := fun R' hR' hs => by
        have hp4 := hR'.pins
        refine ⟨n + 1 - (k + 1), by omega, k + 1, ws₂, Z₄, rfl, hlt, e₂, hR'.weaken hs, hz₄, ?_, W.frame _ _ _ a1 fun b hb o e => ?_⟩
        · intro p hp hb
          rcases List.mem_append.mp hp with hp | hp
          · exact hd₂ p (by simp [hp]) hb
          · rw [← e₂] at hb
            obtain ⟨r, hr, e⟩ := List.mem_map.mp hb
            obtain ⟨_, _, _, q⟩ := hR'
            exact q.d2 r (by simp [hr]) p hp e
        · rcases W.foot b hb with q | ⟨ob, q⟩
          · rw [← e₂] at q
            obtain ⟨p, hp, rfl⟩ := List.mem_map.mp q
            have := hw₂ p hp
            rw [e] at this
            obtain rfl := Option.some.inj this
            exact hp4 p (by simp [hp])
          · have r1 := hst₂.pins (b, ob) (by simp [a3 _ (hz'.sub _ q)])
            simp only at r1
            rw [e] at r1
            obtain rfl := Option.some.inj r1
            exact hp4 (b, o) (by simp [hz₄.sub _ q])
      cases o with
      | next R' => obtain ⟨rfl, q2⟩ := q2; exact more R' q2 q1
      | cont R' => obtain ⟨rfl, q2⟩ := q2; exact more R' q2 q1
      | brk R' => obtain ⟨rfl, q2⟩ := q2; exact hR _ _ Z₄ s₄ q1 ⟨rfl, q2.unpin⟩ hz₄
      | ret d => obtain ⟨v, R', rfl, r, q2⟩ := q2; exact hR _ _ Z₄ s₄ q1 ⟨v, R', rfl, r, q2.unpin⟩ hz₄
  · have hkn : k = n := by omega
    subst hkn
    refine wpAny_mono (W.done s' (fun r s₁ => r = none ∧ ∃ h' tk, s₁ = { s' with heap := h', toks := tk } ∧ ∀ b o, b ∉ wr → s'.heap.get? b = some o → h'.get? b = some o) hI fun h' tk hk' => ⟨rfl, h', tk, rfl, hk'⟩) (fun r s₁ hr => ?_) fun _ _ x => x.elim
    obtain ⟨rfl, h', tk, rfl, hk'⟩ := hr
    refine wpAny_execs_nil (hR _ _ Z' _ done ⟨rfl, ?_⟩ (hz'.trans .at))
    have := hst'.moved (ws' := []) (s' := { s' with heap := h', toks := tk }) (fun b o hb => hk' b o (hws' ▸ hb)) (fun p hp => nomatch hp) (fun p hp => by rw [hws']; exact hd' p hp) (fun _ h => h) fun p hp => .inl hp
    simpa using this
end
end Mine

namespace Mine
open PySem PySem.W PySem.Spec PySem.Calls PyProof.Rows

section
variable {C : Cx} {A : Around} {F : Fx} {ρ ρ' : List Slot} {pin Z : Led} {s : Shared}

/-- an iterator that is none of those that keep their tuple -/
theorem letGo_plain {target : PySem.Expr} {I : Addr} {o : Obj} {v : Value} {T : String} {vs : Array Value} (ho : s.heap.get? I = some o) (hc : o.cls = .type T) (hd : o.data = .fields vs)
    (hT : ["enumerate", "zip", "dict_itemiterator", "dict_reverseitemiterator", "odict_iterator", "itertools.zip_longest", "itertools.pairwise"].contains T = false)
    {K : Unit → Shared → Prop} {E : Value → Shared → Prop} (hK : K () s) : wpAny (model C.prog C.w) A (letOwnedTupleGo target (.ref I) v) K E s := by
  have go : wpAny (model C.prog C.w) A (do
      let (.ref r, .ref a) := (Value.ref I, v) | return
      let o ← load r
      match o.cls, o.data with
      | .type n, .fields vs =>
        if ["enumerate", "zip", "dict_itemiterator", "dict_reverseitemiterator", "odict_iterator", "itertools.zip_longest", "itertools.pairwise"].contains n && vs[0]? == some (rawInt a) then
          rule "for.unpacks-the-owned-tuple"
          updateField r 0 .none
      | _, _ => pure ()) K E s := by
    cases v with
    | ref a =>
      refine wpAny_bind (wpAny_load ho ?_)
      rw [hc, hd]
      simp only [hT, Bool.false_and, Bool.false_eq_true, if_false]
      exact wpAny_pure hK
    | _ => exact wpAny_pure hK
  unfold letOwnedTupleGo
  split
  · exact go
  · exact go
  · exact wpAny_pure hK

theorem Itr.list (hh : A.handled = none) {target : PySem.Expr} {I l : Addr} (hne : l ≠ I) {vs : List Value} {ds : List PyData} {Z₀ : Led} {ol : Obj} (hm : (l, ol) ∈ Z₀) (hi : Rps Z₀ vs ds) :
    Itr C A target I [I] [I, l] ds.length (fun i => ds.getD i .none) (fun i h => h.IsListIter I l i ∧ h.IsList l vs.toArray) Z₀ := by
  have l0 := hi.length
  have W := Walks.list (prog := C.prog) (w := C.w) (A := A) hh I l hne vs.toArray
  rw [List.size_toArray, l0] at W
  refine ⟨W.frame, fun i h hs b hb => ?_, fun b hb => ?_, fun i Z s K hi' hs H hz _ hK => ?_, fun s K hs hK => ?_⟩
  · rw [List.mem_singleton.mp hb]; obtain ⟨o, ho, _⟩ := hs.1; exact ⟨o, ho⟩
  · rcases List.mem_cons.mp hb with rfl | hb
    · exact .inl (List.mem_singleton.mpr rfl)
    · rw [List.mem_singleton.mp hb]; exact .inr ⟨ol, hm⟩
  · refine W.item i s _ _ hi' hs fun v h' tk hv hs' hk => ?_
    obtain ⟨o, ho, hc, hd⟩ := hs'.1
    refine letGo_plain (s := { s with heap := h', toks := tk }) ho hc hd (by decide) (hK v Z h' tk hs' hk (fun _ h => h) (fun p hp => .inl hp) ?_)
    obtain ⟨d, e1, e2⟩ := hi.getV (by simpa using hv)
    rw [List.getD_eq_getElem?_getD, e1]
    exact e2.mono hz
  · exact W.done s _ _ hs hK

theorem Itr.tuple (hh : A.handled = none) {target : PySem.Expr} {I l : Addr} (hne : l ≠ I) {vs : List Value} {ds : List PyData} {Z₀ : Led} {ol : Obj} (hm : (l, ol) ∈ Z₀) (hi : Rps Z₀ vs ds) :
    Itr C A target I [I] [I, l] ds.length (fun i => ds.getD i .none) (fun i h => h.IsTupleIter I l i ∧ h.IsTuple l vs.toArray) Z₀ := by
  have l0 := hi.length
  have W := Walks.tuple (prog := C.prog) (w := C.w) (A := A) hh I l hne vs.toArray
  rw [List.size_toArray, l0] at W
  refine ⟨W.frame, fun i h hs b hb => ?_, fun b hb => ?_, fun i Z s K hi' hs H hz _ hK => ?_, fun s K hs hK => ?_⟩
  · rw [List.mem_singleton.mp hb]; obtain ⟨o, ho, _⟩ := hs.1; exact ⟨o, ho⟩
  · rcases List.mem_cons.mp hb with rfl | hb
    · exact .inl (List.mem_singleton.mpr rfl)
    · rw [List.mem_singleton.mp hb]; exact .inr ⟨ol, hm⟩
  · refine W.item i s _ _ hi' hs fun v h' tk hv hs' hk => ?_
    obtain ⟨o, ho, hc, hd⟩ := hs'.1
    refine letGo_plain (s := { s with heap := h', toks := tk }) ho hc hd (by decide) (hK v Z h' tk hs' hk (fun _ h => h) (fun p hp => .inl hp) ?_)
    obtain ⟨d, e1, e2⟩ := hi.getV (by simpa using hv)
    rw [List.getD_eq_getElem?_getD, e1]
    exact e2.mono hz
  · exact W.done s _ _ hs hK

theorem Itr.range (hh : A.handled = none) {target : PySem.Expr} {I : Addr} {a : Int} {n : Nat} {Z₀ : Led} :
    Itr C A target I [I] [I] n (fun i => .int (a + (i : Int))) (fun i h => IsRangeIter h I (a + (i : Nat) * 1) ((n : Int) - (i : Nat)) 1) Z₀ := by
  have W := Walks.range (prog := C.prog) (w := C.w) (A := A) hh I a 1 n
  refine ⟨W.frame, fun i h hs b hb => ?_, fun b hb => .inl hb, fun i Z s K hi' hs H hz _ hK => ?_, fun s K hs hK => ?_⟩
  · rw [List.mem_singleton.mp hb]; exact ⟨_, hs⟩
  · refine W.item i s _ _ hi' hs fun v h' tk hv hs' hk => ?_
    obtain ⟨t, rfl⟩ := hv
    refine letGo_plain (s := { s with heap := h', toks := tk }) hs' rfl rfl (by decide) (hK _ Z h' tk hs' hk (fun _ h => h) (fun p hp => .inl hp) ?_)
    rw [Int.mul_one]
    exact .int _ _
  · exact W.done s _ _ hs hK

/-- a loop over a list or a tuple -/
theorem Ex1.forSeq (hF : FxOK C A F) (hh : A.handled = none) {target iter : PySem.Expr} {body : List PySem.Stmt} {pos : Pos} {d : PyData} {ds : List PyData} {Q : Out → Prop} (he : EvE C A (FS F ρ) F.env iter d) (hd : d = .list ds ∨ d = .tuple ds)
    (P : Nat → List Slot) (h0 : Sub (P 0) ρ) (turn : ∀ k x, ds[k]? = some x → ∃ ρ', Asg C A F (P k) target x ρ' ∧ ExS C A F ρ' body (LoopQ (P (k + 1)) Q)) (done : Q (.next (P ds.length)))
    (hs : ∀ x, foldedSetIterable iter F.env x = pure x := by intro _; rfl) : Ex1 C A F ρ (.For target iter body [] pos) Q := fun pin Z s K hst hK => by
  have turn' : ∀ k, k < ds.length → ∃ ρ', Asg C A F (P k) target (ds.getD k .none) ρ' ∧ ExS C A F ρ' body (LoopQ (P (k + 1)) Q) := fun k hk => by
    have : ds[k]? = some (ds.getD k .none) := by rw [List.getD_eq_getElem?_getD, List.getElem?_eq_getElem hk]; rfl
    exact turn k _ this
  refine wpAny_For (he Z s _ _ ⟨pin, hst⟩ fun v Z1 s1 x1 r1 => ?_) hs
  have hst1 := (hst.ext x1).weaken h0
  have H1 : HasL s1.heap Z1 := fun p hp => hst1.pins p (by simp [hp])
  have fresh := fresh_get s1.heap
  have off : ∀ p ∈ pin ++ Z1, p.1 ∉ [s1.heap.objs.size] := fun p hp q => by
    have := hst1.pins p hp
    rw [List.mem_singleton.mp q, fresh] at this; cases this
  rcases hd with rfl | rfl
  · cases r1 with
    | list hm hc hdt hi =>
      have hl : s1.heap.IsList _ _ := ⟨_, H1 _ hm, hc, _, hdt⟩
      refine wpAny_pyIter_list hl ?_
      have hne := Nat.ne_of_lt (Heap.lt_size (H1 _ hm))
      refine loop_core hF (Itr.list hh hne hm hi) P (ws := [(s1.heap.objs.size, { cls := .type "list_iterator", data := .fields #[.ref _, .int 0 0] })]) (pin := pin) rfl
        (hst1.pinNew (push_keeps _) fresh (Heap.get?_push_size _ rfl)) off ⟨⟨_, Heap.get?_push_size _ rfl, rfl, rfl⟩, hl.at fun o e => Heap.get?_push_of_some _ e⟩ turn' done
        fun o fl Z' s' q1 q2 q3 => hK o fl Z' s' q1 q2 (x1.fwd.trans (.trans (.at (tk := s1.toks)) q3))
  · cases r1 with
    | tuple hm hc hdt hi =>
      have hl : s1.heap.IsTuple _ _ := ⟨_, H1 _ hm, hc, _, hdt⟩
      refine wpAny_pyIter_tuple hl ?_
      have hne := Nat.ne_of_lt (Heap.lt_size (H1 _ hm))
      refine loop_core hF (Itr.tuple hh hne hm hi) P (ws := [(s1.heap.objs.size, { cls := .type "tuple_iterator", data := .fields #[.ref _, .int 0 0] })]) (pin := pin) rfl
        (hst1.pinNew (push_keeps _) fresh (Heap.get?_push_size _ rfl)) off ⟨⟨_, Heap.get?_push_size _ rfl, rfl, rfl⟩, hl.at fun o e => Heap.get?_push_of_some _ e⟩ turn' done
        fun o fl Z' s' q1 q2 q3 => hK o fl Z' s' q1 q2 (x1.fwd.trans (.trans (.at (tk := s1.toks)) q3))

/-- range(..) as an iterable: from a on, n of them -/
noncomputable def RangeE (C : Cx) (A : Around) (St : Led → Shared → Prop) (env : Env) (e : PySem.Expr) (a : Int) (n : Nat) : Prop :=
  ∀ Z s (K : Value → Shared → Prop) (E : Value → Shared → Prop), St Z s → (∀ r b t u v s', Ext Z s Z s' → IsRange s'.heap r a b 1 t u v → Builtin.Range.small a b 1 = true → Builtin.Range.rangeSize a b 1 = (n : Int) → K (.ref r) s') → wpAny (model C.prog C.w) A (eval e env) K E s

theorem Ex1.forRange (hF : FxOK C A F) (hh : A.handled = none) {target iter : PySem.Expr} {body : List PySem.Stmt} {pos : Pos} {a : Int} {n : Nat} {Q : Out → Prop} (he : RangeE C A (FS F ρ) F.env iter a n)
    (P : Nat → List Slot) (h0 : Sub (P 0) ρ) (turn : ∀ k, k < n → ∃ ρ', Asg C A F (P k) target (.int (a + (k : Int))) ρ' ∧ ExS C A F ρ' body (LoopQ (P (k + 1)) Q)) (done : Q (.next (P n)))
    (hs : ∀ x, foldedSetIterable iter F.env x = pure x := by intro _; rfl) : Ex1 C A F ρ (.For target iter body [] pos) Q := fun pin Z s K hst hK => by
  refine wpAny_For (he Z s _ _ ⟨pin, hst⟩ fun r b t u v s1 x1 hr hsm hsz => ?_) hs
  have hst1 := (hst.ext x1).weaken h0
  have fresh := fresh_get s1.heap
  have off : ∀ p ∈ pin ++ Z, p.1 ∉ [s1.heap.objs.size] := fun p hp q => by
    have := hst1.pins p hp
    rw [List.mem_singleton.mp q, fresh] at this; cases this
  refine wpAny_pyIter_range hr hsm ?_
  rw [hsz]
  refine loop_core hF (Itr.range hh) P (ws := [(s1.heap.objs.size, { cls := .type "range_iterator", data := .fields #[rawInt a, rawInt (n : Int), rawInt 1] })]) (pin := pin) rfl
    (hst1.pinNew (push_keeps _) fresh (Heap.get?_push_size _ rfl)) off ?_ turn done fun o fl Z' s' q1 q2 q3 => hK o fl Z' s' q1 q2 (x1.fwd.trans (.trans (.at (tk := s1.toks)) q3))
  show IsRangeIter _ _ _ _ _
  have := Heap.get?_push_size s1.heap (o := { cls := .type "range_iterator", data := .fields #[rawInt a, rawInt (n : Int), rawInt 1] }) rfl
  simpa using this
end

section
variable {C : Cx} {A : Around} {St : Led → Shared → Prop} {env : Env}
theorem RangeE.one (O : Okay C A St) {x : Str} {np pos : Pos} {e : PySem.Expr} {n : Nat} (hn : NmV C A St env x (.type "range")) (h : EvE C A St env e (.int n)) (hz : n < 2 ^ 60)
    (he : starEach [e] env = (false, eval e env) :: starEach [] env := by rfl) : RangeE C A St env (.Call (.Name x np) [e] [] pos) 0 n := fun Z s K E hs hK => by
  refine Call_ (hn np Z s _ E hs (PyProof.Rows.callWith_type1 ((EvEs.cons O h EvEs.nil he) pos Z s _ E hs fun vs Z1 s1 x1 r1 => ?_) he))
  cases r1 with
  | cons r1 r2 =>
    cases r2
    obtain ⟨t, rfl⟩ := r1.intAt
    refine call_range_1 (hK _ (n : Int) _ t _ _ ?_ (IsRange.new ..) (small_one (by decide) (by decide) (by omega) (by omega)) (by rw [rangeSize_one]; split <;> omega))
    obtain ⟨h1, t1, rfl⟩ := x1.same
    exact ⟨⟨_, _, rfl⟩, fun b o e => Heap.get?_push_of_some _ (x1.keep b o e), fun _ h => h, fun _ h => .inl h⟩
theorem RangeE.two (O : Okay C A St) {x : Str} {np pos : Pos} {e1 e2 : PySem.Expr} {a b : Int} (hn : NmV C A St env x (.type "range")) (h1 : EvE C A St env e1 (.int a)) (h2 : EvE C A St env e2 (.int b)) (ha : -(2 ^ 60) ≤ a ∧ a < 2 ^ 60) (hb : -(2 ^ 60) ≤ b ∧ b < 2 ^ 60)
    (he : starEach [e1, e2] env = (false, eval e1 env) :: starEach [e2] env := by rfl) (he2 : starEach [e2] env = (false, eval e2 env) :: starEach [] env := by rfl) (hp : ∀ pos, (backTo pos (starEach [e2] env)).any (·.1) = false := by intro _; rfl) :
    RangeE C A St env (.Call (.Name x np) [e1, e2] [] pos) a (b - a).toNat := fun Z s K E hs hK => by
  refine Call_ (hn np Z s _ E hs (PyProof.Rows.callWith_type1 ((EvEs.cons O h1 (EvEs.cons O h2 EvEs.nil he2) he) pos Z s _ E hs fun vs Z1 s1 x1 r1 => ?_) he (hp pos)))
  cases r1 with
  | cons r1 r2 =>
    cases r2 with
    | cons r2 r3 =>
    cases r3
    obtain ⟨t, rfl⟩ := r1.intAt
    obtain ⟨u, rfl⟩ := r2.intAt
    refine call_range_2 (hK _ b t u _ _ ?_ (IsRange.new ..) (small_one (by omega) (by omega) (by omega) (by omega)) (by rw [rangeSize_one]; split <;> omega))
    obtain ⟨h1, t1, rfl⟩ := x1.same
    exact ⟨⟨_, _, rfl⟩, fun b o e => Heap.get?_push_of_some _ (x1.keep b o e), fun _ h => h, fun _ h => .inl h⟩
end
end Mine

namespace Mine
open PySem PySem.W PySem.Spec PySem.Calls PyProof.Rows

noncomputable def Out.val : Out → Option PyData
  | .next _ => some .none
  | .ret d => some d
  | .cont _ => none
  | .brk _ => none

/-- the def gives d -/
noncomputable def RetQ (d : PyData) : Out → Prop := fun o => o.val = some d
theorem RetQ.ret {d d' : PyData} (h : d' = d) : RetQ d (.ret d') := congrArg some h
theorem RetQ.next {ρ : List Slot} : RetQ .none (.next ρ) := rfl
noncomputable def retOf (fl : Flow) : Value := match fl with | .ret v => v | _ => .none
/-- a def of the program stands at f -/
structure DefAt (C : Cx) (f : Addr) (params : Arguments) (body : List PySem.Stmt) (scope : Scope) : Prop where
  at_ : ∃ name qual dV kV doc pm an cdv ct oc od osl, C.K.lookup f = some ⟨oc, od, .func (fnOf name qual params body scope dV kV doc pm an cdv ct), osl⟩ ∧ codeIn C.K cdv qual = true ∧
    (∀ vs : List Value, vs.length = params.args.length → bindArgs (fnOf name qual params body scope dV kV doc pm an cdv ct) ⟨vs, []⟩ = pure ((params.args.map (·.arg)).zip vs))
theorem DefAt.isFn {C : Cx} {f : Addr} {params : Arguments} {body : List PySem.Stmt} {scope : Scope} (h : DefAt C f params body scope) : IsFn C f := by
  obtain ⟨_, _, _, _, _, _, _, _, _, _, _, _, h, _⟩ := h.at_
  exact ⟨_, _, _, _, h⟩

theorem lookup_nodup {α : Type} : ∀ {l : List (Str × α)} {x : Str} {v : α}, (l.map (·.1)).Nodup → (x, v) ∈ l → l.lookup x = some v
  | (y, w) :: r, x, v, nd, hm => by
    rw [List.map_cons, List.nodup_cons] at nd
    rw [List.lookup_cons]
    rcases List.mem_cons.mp hm with e | hm
    · cases e; simp
    · have : x ≠ y := fun e => nd.1 (e ▸ List.mem_map.mpr ⟨(x, v), hm, rfl⟩)
      rw [show (x == y) = false from by simpa using this]
      exact lookup_nodup nd.2 hm
theorem zip_sub : ∀ (ps : List Str) (vs : List Value), ((ps.zip vs).map (·.1)).Sublist ps
  | [], _ => by simp
  | _ :: _, [] => by simp
  | p :: ps, v :: vs => by simpa using zip_sub ps vs
theorem lookup_zip {ps : List Str} (nd : ps.Nodup) : ∀ {vs : List Value} {i : Nat} {x : Str} {v : Value}, ps[i]? = some x → vs[i]? = some v → (ps.zip vs).reverse.lookup x = some v := by
  intro vs i x v hx hv
  have hm : (x, v) ∈ ps.zip vs := by
    refine List.mem_of_getElem? (i := i) ?_
    rw [List.getElem?_zip_eq_some]; exact ⟨hx, hv⟩
  have hnd : ((ps.zip vs).reverse.map (·.1)).Nodup := by
    rw [List.map_reverse]
    refine (List.reverse_perm _).nodup_iff.mpr ?_
    exact nd.sublist (zip_sub ps vs)
  exact lookup_nodup hnd (List.mem_reverse.mpr hm)

section
variable {C : Cx} {f : Addr} {params : Arguments} {body : List PySem.Stmt} {scope : Scope}

/-- the names' facts, said of the scope alone -/
structure ScopeOK (scope : Scope) (ns : List Str) : Prop where
  nd : ns.Nodup
  kinds : ∀ x ∈ ns, (x == ("__debug__" : Str)) = false ∧ scope.names.lookup x = some .local
  cell : ∀ x ∈ scope.names, x.2 ≠ .cell
  co : scope.isCoroutine = false
  gen : scope.isGenerator = false
  kind : scope.kind = .function

/-- a def's body has been entered -/
structure Entd (A : Around) (Z : Led) (s : Shared) (F : Fx) (s₁ : Shared) : Prop where
  out : A.frames = some F.outer
  h0 : F.h₀ = hideAll s.heap (Z.map (·.1))
  same : ∃ h' tk, s₁ = { s with heap := h', toks := tk }
  has : HasL s.heap Z
  new : s.heap.get? F.L = none
theorem Entd.keep {A : Around} {Z Z' pin muts : Led} {s s₁ s' : Shared} {F : Fx} {ρ : List Slot} {m : Str → Option Value} {oa : Nat → Addr} (e : Entd A Z s F s₁) (hI : FIn F ρ pin Z' s' m muts oa) (hz : ∀ p ∈ Z, p ∈ Z') :
    ∀ b o, s.heap.get? b = some o → s'.heap.get? b = some o := fun b o e0 => by
  by_cases hb : b ∈ Z.map (·.1)
  · obtain ⟨p, hp, rfl⟩ := List.mem_map.mp hb
    have e1 := e.has p hp
    rw [e0] at e1
    rw [Option.some.inj e1]
    exact (hI.newsZ p (hz p hp)).1
  · exact hI.fr.keep b o (by rw [e.h0]; exact hideAll_get _ e0 hb)
theorem Entd.fresh {A : Around} {Z Z' pin muts : Led} {s s₁ s' : Shared} {F : Fx} {ρ : List Slot} {m : Str → Option Value} {oa : Nat → Addr} (e : Entd A Z s F s₁) (hI : FIn F ρ pin Z' s' m muts oa) (hz : ∀ p ∈ Z, p ∈ Z') :
    ∀ p ∈ Z', p ∈ Z ∨ (s.heap.get? p.1 = none ∧ s'.heap.get? p.1 = some p.2) := fun p hp => by
  have q := hI.newsZ p hp
  by_cases hb : p.1 ∈ Z.map (·.1)
  · obtain ⟨p', hp', e'⟩ := List.mem_map.mp hb
    have q' := (hI.newsZ p' (hz p' hp')).1
    rw [e', q.1] at q'
    have : p = p' := Prod.ext e'.symm (Option.some.inj q')
    exact .inl (this ▸ hp')
  · refine .inr ⟨?_, q.1⟩
    have q2 : F.h₀.get? p.1 = none := q.2.2
    cases e0 : s.heap.get? p.1 with
    | none => rfl
    | some o =>
      have := hideAll_get (Z.map (·.1)) e0 hb
      rw [← e.h0, q2] at this; cases this
theorem Entd.go {A : Around} {Z Z' : Led} {s s₁ s' : Shared} {F : Fx} (e : Entd A Z s F s₁) (hz : Fwd Z s₁ Z' s') : ∃ h' tk, s' = { s with heap := h', toks := tk } := by
  obtain ⟨h1, t1, e1⟩ := e.same
  obtain ⟨h2, t2, e2⟩ := hz.same
  exact ⟨h2, t2, by rw [e2, e1]⟩
theorem Entd.ext {A : Around} {Z Z' pin muts : Led} {s s₁ s' : Shared} {F : Fx} {ρ : List Slot} {m : Str → Option Value} {oa : Nat → Addr} (e : Entd A Z s F s₁) (hI : FIn F ρ pin Z' s' m muts oa) (hz : Fwd Z s₁ Z' s') : Ext Z s Z' s' :=
  ⟨e.go hz, e.keep hI hz.sub, hz.sub, e.fresh hI hz.sub⟩

noncomputable def Entry (C : Cx) (f : Addr) (ds : List PyData) (body : List PySem.Stmt) (ns : List Str) (scope : Scope) (ρ : List Slot) (k : Nat) : Prop :=
  ∀ A Z s vs (R : Result → Shared → Prop), Ground C A Z s → Room A (k + 1) → Rps Z vs ds →
    (∀ F s₁, FxOK C (A.deeper F.env) F → F.ns = ns → F.env.scope = scope → Room (A.deeper F.env) k → (A.deeper F.env).units + 200 < cLine → Entd A Z s F s₁ → FSt F ρ [] Z s₁ →
      wpAny (model C.prog C.w) (A.deeper F.env) (execs body F.env) (fun fl s' => R (.ok (.ret (retOf fl))) s')
        (fun e s' => wpAny (model C.prog C.w) (A.deeper F.env) (leaving F.env e) (fun _ s'' => R (.error e) s'') (fun e' s'' => R (.error e') s'') s') s₁) →
    codeAny (model C.prog C.w) A (.call (.ref f) ⟨vs, []⟩) R s

theorem FnOK.enters {ds : List PyData} {ns : List Str} {ρ : List Slot} {k : Nat} {d : PyData} (hE : Entry C f ds body ns scope ρ k)
    (hb : ∀ A F, FxOK C A F → F.ns = ns → F.env.scope = scope → Room A k → A.handled = none → A.units + 200 < cLine → ExS C A F ρ body (RetQ d)) : FnOK C f (k + 1) ds d := by
  intro A Z s vs R hg hroom hh hr hR
  refine hE A Z s vs R hg hroom hr fun F s₁ hF hn hs hroom' hu ent hst => ?_
  refine wpAny_mono (hb _ F hF hn hs hroom' hh hu [] Z s₁ (fun fl s' => ∃ v Z', retOf fl = v ∧ Rp Z' v d ∧ (∃ ρ', FSt F ρ' [] Z' s') ∧ Fwd Z s₁ Z' s') hst fun o fl Z' s' q1 q2 q3 => ?_) (fun fl s' q => ?_) fun _ _ x => x.elim
  · cases o with
    | next ρ' => obtain ⟨rfl, q2⟩ := q2; cases q1; exact ⟨_, Z', rfl, .none, ⟨ρ', q2⟩, q3⟩
    | cont ρ' => cases q1
    | brk ρ' => cases q1
    | ret d' => obtain ⟨v, ρ', rfl, r, q2⟩ := q2; cases q1; exact ⟨v, Z', rfl, r, ⟨ρ', q2⟩, q3⟩
  · obtain ⟨v, Z', e, r, ⟨ρ', m', muts, oa, hI⟩, hz⟩ := q
    show R (.ok (.ret (retOf fl))) s'
    rw [e]
    exact hR v Z' s' (ent.ext hI hz) r

theorem Entry.plain (D : DefAt C f params body scope) (more : List Str) {ds : List PyData} {k : Nat} (hps : params.args.length = ds.length) (hS : ScopeOK scope (params.args.map (·.arg) ++ more)) :
    Entry C f ds body (params.args.map (·.arg) ++ more) scope (ds.map .dat ++ more.map fun _ => .undef) k := by
  intro A Z s vs R hg hroom hr hb
  obtain ⟨A₀, base, outer, h₀, L, m, env, G⟩ := hg
  obtain ⟨name, qual, dV, kV, doc, pm, an, cdv, ct, oc, od, osl, hl, hcd, hbind⟩ := D.at_
  have N : News h₀ L s.heap Z := by simpa using G.N
  have lvs := hr.length
  have hfo := G.F.keep _ _ (G.X _ _ hl)
  have room1 : A.depth + (k + 1) ≤ 950 := hroom.depth
  have room2 : A.units + 8 * (k + 1) ≤ 4000 := hroom.units
  have hbinds := hbind vs (by rw [lvs, hps])
  have hnd : (params.args.map (·.arg)).Nodup := (List.nodup_append.mp hS.nd).1
  obtain ⟨FG, B', st, _⟩ := groundX (R := R) G.B G.F N G.hA G.hf G.hk
  refine codeAny_call_def (o := ⟨oc, od, .func (fnOf name qual params body scope dV kV doc pm an cdv ct), osl⟩) (fd := fnOf name qual params body scope dV kV doc pm an cdv ct) (body := body) (binds := (params.args.map (·.arg)).zip vs)
    (by have : recursionLimit = 1000 := rfl; omega) hfo rfl (G.T.nolimit.keeps G.F.keep) (codeRec_of (G.X.keeps G.F.keep) hcd) rfl (.of_eq hbinds) hS.cell ?_ (fun h₁ hns hk₁ => ?_) hS.co hS.gen hS.kind
  · intro y hy
    have : y.1 ∈ params.args.map (·.arg) := (List.of_mem_zip (show (y.1, y.2) ∈ _ from hy)).1
    exact (hS.kinds y.1 (List.mem_append_left _ this)).2
  generalize hgd : hideAll s.heap (Z.map (·.1)) = g at FG B' st
  have F' : Fr g s.heap.objs.size h₁ (fun y => ((params.args.map (·.arg)).zip vs).reverse.lookup y) := ⟨hns, fun b o e => hk₁ b o (of_hideAll _ (hgd ▸ e)), by rw [← hgd]; exact Nat.le_of_eq (hideAll_size _ _)⟩
  have N' : News g s.heap.objs.size h₁ Z := fun p hp => ⟨hk₁ _ _ (N p hp).1, Nat.ne_of_lt (Heap.lt_size (N p hp).1), by rw [← hgd]; exact hideAll_none _ (List.mem_map_of_mem hp)⟩
  show wpAny _ (A.deeper (envX qual scope s.heap.objs.size f cdv [])) (execs body (envX qual scope s.heap.objs.size f cdv [])) _ _ _
  generalize hL' : s.heap.objs.size = L' at *
  let F : Fx := { A₀ := A, base := base, outer := env :: outer, h₀ := g, L := L', env := envX qual scope L' f cdv [], ns := params.args.map (·.arg) ++ more }
  have hF : FxOK C (A.deeper (envX qual scope L' f cdv [])) F :=
    { B := B', XB := G.XB, TB := G.TB, hA := Around.frames_deeper G.hA, hf := rfl, hl := rfl, hk := hS.kind, hg := rfl, hb := rfl, nd := hS.nd,
      kinds := fun x hx => ⟨(hS.kinds x hx).1, .inl (hS.kinds x hx).2⟩, cinj := fun x y c hx => by cases hx }
  have hst : FSt F (ds.map .dat ++ more.map fun _ => .undef) [] Z { s with heap := h₁, toks := s.toks + ((params.args.map (·.arg)).zip vs).length } := by
    refine ⟨_, [], fun _ => 0, F', by simpa using N', (fun p hp => nomatch hp), (fun p hp => nomatch hp), fun i x sl hi hs => ?_, fun i j x y ds' es _ _ hi => ?_, fun x c hc => by cases hc⟩
    · cases sl with
      | undef => trivial
      | own ds' =>
        rcases Nat.lt_or_ge i ds.length with q | q
        · rw [List.getElem?_append_left (by simpa using q)] at hs
          simp at hs
        · rw [List.getElem?_append_right (by simpa using q)] at hs
          simp at hs
      | dat d' =>
        rcases Nat.lt_or_ge i ds.length with q | q
        · rw [List.getElem?_append_left (by simpa using q)] at hs
          rw [List.getElem?_map] at hs
          obtain ⟨d'', e1, e2⟩ := Option.map_eq_some_iff.mp hs
          cases e2
          obtain ⟨v, hv, rv⟩ := hr.get e1
          have hi' : (params.args.map (·.arg))[i]? = some x := by
            have : i < (params.args.map (·.arg)).length := by simpa [hps] using q
            rw [← hi]; exact (List.getElem?_append_left this).symm
          exact ⟨v, .inl ⟨(hS.kinds x (mem_of_get hi)).2, lookup_zip hnd hi' hv⟩, rv⟩
        · rw [List.getElem?_append_right (by simpa using q)] at hs
          simp at hs
    · rcases Nat.lt_or_ge i ds.length with q | q
      · rw [List.getElem?_append_left (by simpa using q)] at hi
        simp at hi
      · rw [List.getElem?_append_right (by simpa using q)] at hi
        simp at hi
  have hroom' : Room (A.deeper (envX qual scope L' f cdv [])) k := ⟨by show A.depth + 1 + k ≤ 950; omega, by show A.units + 3 + 8 * k ≤ 4000; omega⟩
  have hu : (A.deeper (envX qual scope L' f cdv [])).units + 200 < cLine := by show A.units + 3 + 200 < 9900; omega
  exact hb F _ hF rfl rfl hroom' hu ⟨G.hA, hgd.symm, ⟨_, _, rfl⟩, fun p hp => (N p hp).1, by show s.heap.get? L' = none; rw [← hL']; exact fresh_get _⟩ hst

theorem FnOK.plain (D : DefAt C f params body scope) (more : List Str) {ds : List PyData} {d : PyData} {k : Nat} (hps : params.args.length = ds.length) (hS : ScopeOK scope (params.args.map (·.arg) ++ more))
    (hb : ∀ A F, FxOK C A F → F.ns = params.args.map (·.arg) ++ more → F.env.scope = scope → Room A k → A.handled = none → A.units + 200 < cLine →
      ExS C A F (ds.map .dat ++ more.map fun _ => .undef) body (RetQ d)) : FnOK C f (k + 1) ds d := FnOK.enters (Entry.plain D more hps hS) hb
end
end Mine

namespace Mine
open PySem PySem.W PySem.Spec PySem.Calls PyProof.Rows

section
variable {C : Cx} {A : Around} {St : Led → Shared → Prop} {env : Env}
theorem NmV.glob (O : Okay C A St) {x : Str} {v : Value} (hk : env.scope.kind = .function) (hg : env.globals = mainGlobals) (hx : env.kindOf x = some .globalImplicit) (hd : (x == ("__debug__" : Str)) = false) (e : nsIn C.K mainGlobals x = some (some v)) : NmV C A St env x v := fun pos Z s K E hs hK => by
  obtain ⟨_, _, _, _, _, _, _, G⟩ := O.call hs
  exact Name_function_global hk hx (loadGlobal_global (hg ▸ G.T.g.keeps G.F.keep) (mg_of G.X G.T.g e) hK) hd
theorem NmV.bi (O : Okay C A St) {x : Str} {v : Value} (hk : env.scope.kind = .function) (hg : env.globals = mainGlobals) (hb : env.builtins = builtinsNs) (hx : env.kindOf x = some .globalImplicit) (hd : (x == ("__debug__" : Str)) = false)
    (e : nsIn C.K mainGlobals x = some none) (hv : bootBuiltins x = some v) (hn : x ≠ "__name__") : NmV C A St env x v := fun pos Z s K E hs hK => by
  obtain ⟨_, _, _, _, _, _, _, G⟩ := O.call hs
  exact Name_function_global hk hx (loadGlobal_builtin (hg ▸ G.T.g.keeps G.F.keep) (mg_none_of G.X G.T.g e) (hb ▸ G.T.b.keeps G.F.keep) ((G.T.builtins x hn).trans hv) hK) hd
end


theorem noInter {env : Env} (h : env.scope.kind = .function) : interactive env = false := by unfold interactive; rw [h]; rfl
end Mine

namespace Mine
open PySem PySem.W PySem.Spec PySem.Calls PyProof.Rows

/-! ## Data of a shape: without dicts, of a bounded depth -/
inductive Shp : Nat → PyData → Prop
  | int {n : Nat} {i : Int} : Shp n (.int i)
  | bool {n : Nat} {b : Bool} : Shp n (.bool b)
  | none {n : Nat} : Shp n .none
  | str {n : Nat} {x : Str} (h : PyData.strOk x = true) : Shp n (.str x)
  | list {n : Nat} {ds : List PyData} (h : ∀ x ∈ ds, Shp n x) : Shp (n + 1) (.list ds)
  | tuple {n : Nat} {ds : List PyData} (h : ∀ x ∈ ds, Shp n x) : Shp (n + 1) (.tuple ds)
theorem canAll {ds : List PyData} (h : ∀ x ∈ ds, x.canLay0 = true) : PyData.canLayAll0 ds = true := by
  induction ds with
  | nil => rfl
  | cons d ds ih =>
    rw [PyData.canLayAll0, h d (.head _), ih fun x hx => h x (.tail _ hx)]; rfl
theorem depAll {ds : List PyData} {n : Nat} (h : ∀ x ∈ ds, x.depth ≤ n) : PyData.depthAll ds ≤ n := by
  induction ds with
  | nil => exact Nat.zero_le _
  | cons d ds ih =>
    rw [PyData.depthAll]
    exact Nat.max_le.2 ⟨h d (.head _), ih fun x hx => h x (.tail _ hx)⟩
theorem Shp.can {n : Nat} {d : PyData} (h : Shp n d) : d.canLay0 = true ∧ d.depth ≤ n := by
  induction h with
  | int => exact ⟨rfl, Nat.zero_le _⟩
  | bool => exact ⟨rfl, Nat.zero_le _⟩
  | none => exact ⟨rfl, Nat.zero_le _⟩
  | str h => exact ⟨h, Nat.zero_le _⟩
  | list h ih => exact ⟨by rw [PyData.canLay0]; exact canAll fun x hx => (ih x hx).1, by rw [PyData.depth]; exact Nat.succ_le_succ (depAll fun x hx => (ih x hx).2)⟩
  | tuple h ih => exact ⟨by rw [PyData.canLay0]; exact canAll fun x hx => (ih x hx).1, by rw [PyData.depth]; exact Nat.succ_le_succ (depAll fun x hx => (ih x hx).2)⟩
theorem Shp.shaped {n : Nat} {d : PyData} (h : Shp n d) (hn : n ≤ 64 := by decide) : SeqAt.shaped d = true := by
  have := h.can
  unfold SeqAt.shaped
  rw [this.1, decide_eq_true (Nat.le_trans this.2 hn)]; rfl
theorem Shp.refl {n : Nat} {d : PyData} (h : Shp n d) : PyData.eqv d d = true := SeqAt.eqv_refl d h.can.1

/-- data on which == is equality: no bools, no dicts -/
inductive Pln : PyData → Prop
  | int {i : Int} : Pln (.int i)
  | none : Pln .none
  | str {x : Str} : Pln (.str x)
  | list {ds : List PyData} (h : ∀ x ∈ ds, Pln x) : Pln (.list ds)
  | tuple {ds : List PyData} (h : ∀ x ∈ ds, Pln x) : Pln (.tuple ds)
theorem eqvAll_eq {ds : List PyData} (ih : ∀ x ∈ ds, ∀ e, Pln e → PyData.eqv x e = true → x = e) : ∀ es : List PyData, (∀ e ∈ es, Pln e) → PyData.eqvAll ds es = true → ds = es := by
  induction ds with
  | nil => intro es _ h; cases es with | nil => rfl | cons _ _ => simp [PyData.eqvAll] at h
  | cons d ds ihd =>
    intro es hp h
    cases es with
    | nil => simp [PyData.eqvAll] at h
    | cons e es =>
      rw [PyData.eqvAll, Bool.and_eq_true] at h
      rw [ih d (.head _) e (hp e (.head _)) h.1, ihd (fun x hx => ih x (.tail _ hx)) es (fun e he => hp e (.tail _ he)) h.2]
theorem Pln.eq_of {d e : PyData} (hd : Pln d) (he : Pln e) (h : PyData.eqv d e = true) : d = e := by
  induction hd generalizing e with
  | int => cases he <;> simp_all [PyData.eqv]
  | none => cases he <;> simp_all [PyData.eqv]
  | str => cases he <;> simp_all [PyData.eqv]
  | list hl ih =>
    cases he with
    | list hk => rw [PyData.eqv] at h; rw [eqvAll_eq (fun x hx e he hh => ih x hx he hh) _ hk h]
    | int => simp [PyData.eqv] at h
    | none => simp [PyData.eqv] at h
    | str => simp [PyData.eqv] at h
    | tuple _ => simp [PyData.eqv] at h
  | tuple hl ih =>
    cases he with
    | tuple hk => rw [PyData.eqv] at h; rw [eqvAll_eq (fun x hx e he hh => ih x hx he hh) _ hk h]
    | int => simp [PyData.eqv] at h
    | none => simp [PyData.eqv] at h
    | str => simp [PyData.eqv] at h
    | list _ => simp [PyData.eqv] at h
theorem shp_nil {n : Nat} : ∀ x ∈ ([] : List PyData), Shp n x := fun _ h => nomatch h
theorem shp_cons {n : Nat} {d : PyData} {ds : List PyData} (h : Shp n d) (r : ∀ x ∈ ds, Shp n x) : ∀ x ∈ d :: ds, Shp n x := fun x hx => by
  cases hx with
  | head => exact h
  | tail _ hx => exact r x hx
end Mine

namespace Mine
open PySem PySem.W PySem.Spec PySem.Calls PyProof.Rows

/-! ## The parts of a def in the program's text -/
noncomputable def stmtAt (p : Program) (i : Nat) : PySem.Stmt := p.main.body.getD i (.Pass ⟨0, 0, 0, 0⟩)
noncomputable def fdParams : PySem.Stmt → Arguments
  | .FunctionDef _ a _ _ _ _ _ _ _ _ => a
  | _ => default
noncomputable def fdBody : PySem.Stmt → List PySem.Stmt
  | .FunctionDef _ _ b _ _ _ _ _ _ _ => b
  | _ => []
noncomputable def fdScope : PySem.Stmt → Scope
  | .FunctionDef _ _ _ _ _ _ s _ _ _ => s
  | _ => default

theorem Room.le {A : Around} {k k' : Nat} (h : Room A k) (hk : k' ≤ k) : Room A k' := ⟨by have := h.depth; omega, by have := h.units; omega⟩
/-- all that the walk of a def's body leans on -/
structure Wk (C : Cx) (A : Around) (F : Fx) (k : Nat) (ns gs : List Str) : Prop where
  hF : FxOK C A F
  hns : F.ns = ns
  hG : ∀ x ∈ gs, F.env.kindOf x = some .globalImplicit ∧ (x == ("__debug__" : Str)) = false
  room : Room A (k % 200)
  hh : k ≤ 100 → A.handled = none
  hu : A.units + 200 < cLine

theorem Wk.rm {C : Cx} {A : Around} {F : Fx} {k : Nat} {ns gs : List Str} (W : Wk C A F k ns gs) (h9 : k ≤ 100) : Room A k := by
  have := W.room; rwa [Nat.mod_eq_of_lt (by omega)] at this
noncomputable def scopeB (scope : Scope) (ns gs : List Str) : Bool :=
  decide ns.Nodup && ns.all (fun x => !(x == ("__debug__" : Str)) && scope.names.lookup x == some .local) && gs.all (fun x => !(x == ("__debug__" : Str)) && scope.names.lookup x == some .globalImplicit) &&
  scope.names.all (fun x => x.2 != .cell) && !scope.isCoroutine && !scope.isGenerator && scope.kind == .function

theorem FnOK.of {C : Cx} {f : Addr} {k : Nat} {d : PyData} (st : PySem.Stmt) (ns gs : List Str) (ds : List PyData) (more : List Str) (D : DefAt C f (fdParams st) (fdBody st) (fdScope st))
    (hps : (fdParams st).args.map (·.arg) ++ more = ns) (hlen : (fdParams st).args.length = ds.length) (hS : scopeB (fdScope st) ns gs = true)
    (hb : ∀ A F, Wk C A F k ns gs → ExS C A F (ds.map .dat ++ more.map fun _ => .undef) (fdBody st) (RetQ d)) : FnOK C f (k + 1) ds d := by
  subst hps
  unfold scopeB at hS
  simp only [Bool.and_eq_true, decide_eq_true_eq, List.all_eq_true, Bool.not_eq_true', beq_iff_eq, bne_iff_ne] at hS
  obtain ⟨⟨⟨⟨⟨⟨h1, h2⟩, h3⟩, h4⟩, h5⟩, h6⟩, h7⟩ := hS
  exact FnOK.plain D more hlen ⟨h1, h2, h4, h5, h6, h7⟩ fun A F hF hn hs hr hh hu => hb A F ⟨hF, hn, fun x hx => ⟨by show F.env.scope.names.lookup x = _; rw [hs]; exact (h3 x hx).2, (h3 x hx).1⟩, hr.le (Nat.mod_le _ _), fun _ => hh, hu⟩

/-- a builtin's name -/
noncomputable def Bi (C : Cx) (x : Str) (v : Value) : Prop := nsIn C.K mainGlobals x = some none ∧ bootBuiltins x = some v ∧ x ≠ "__name__"
/-- a def's or class's name -/
noncomputable def Gl (C : Cx) (x : Str) (a : Addr) : Prop := nsIn C.K mainGlobals x = some (some (.ref a))


namespace V
section
variable {C : Cx} {A : Around} {F : Fx} {k : Nat} {ns gs : List Str} {ρ ρ' : List Slot}

theorem ok (W : Wk C A F k ns gs) (ρ : List Slot) : Okay C A (FS F ρ) := W.hF.okay ρ
theorem var (W : Wk C A F k ns gs) {x : Str} {pos : Pos} {i : Nat} {d : PyData} (hv : Var ns ρ x i (.dat d)) : EvE C A (FS F ρ) F.env (.Name x pos) d := EvE.var W.hF (W.hns ▸ hv)
theorem bin (W : Wk C A F k ns gs) {op : PySem.Operator} {l r : PySem.Expr} {pos : Pos} {d1 d2 d : PyData} (h1 : EvE C A (FS F ρ) F.env l d1) (h2 : EvE C A (FS F ρ) F.env r d2) (hb : BinR op d1 d2 d) : EvE C A (FS F ρ) F.env (.BinOp l op r pos) d :=
  EvE.bin (ok W ρ) h1 h2 hb
theorem cmp (W : Wk C A F k ns gs) {op : PySem.CmpOp} {l r : PySem.Expr} {pos : Pos} {d1 d2 : PyData} {b : Bool} (h1 : EvE C A (FS F ρ) F.env l d1) (h2 : EvE C A (FS F ρ) F.env r d2) (hb : CmpR op d1 d2 b)
    (hm : behindInMarks op r = false := by with_unfolding_all rfl) : EvE C A (FS F ρ) F.env (.Compare l [op] [r] pos) (.bool b) := EvE.cmp (ok W ρ) W.hu h1 h2 hb hm
theorem cmpB (W : Wk C A F k ns gs) {op : PySem.CmpOp} {l r : PySem.Expr} {pos : Pos} {d1 d2 : PyData} {b : Bool} (h1 : EvE C A (FS F ρ) F.env l d1) (h2 : EvE C A (FS F ρ) F.env r d2) (hb : CmpR op d1 d2 b)
    (hm : behindInMarks op r = false := by with_unfolding_all rfl) : EvB C A (FS F ρ) F.env (.Compare l [op] [r] pos) b := EvB.cmp (ok W ρ) W.hu h1 h2 hb hm
theorem tuple (W : Wk C A F k ns gs) {es : List PySem.Expr} {n : Nat} {pos : Pos} {ds : List PyData} (h : EvEs C A (FS F ρ) F.env es ds) (hz : ds.length ≤ 2 ^ 20) : EvE C A (FS F ρ) F.env (.Tuple es n pos) (.tuple ds) := EvE.tuple (ok W ρ) h hz
theorem list (W : Wk C A F k ns gs) {es : List PySem.Expr} {pos : Pos} {ds : List PyData} (h : EvEs C A (FS F ρ) F.env es ds) (hz : ds.length ≤ 2 ^ 20) : EvE C A (FS F ρ) F.env (.List es pos) (.list ds) := EvE.list (ok W ρ) h hz
theorem cons (W : Wk C A F k ns gs) {e : PySem.Expr} {es : List PySem.Expr} {d : PyData} {ds : List PyData} (h : EvE C A (FS F ρ) F.env e d) (r : EvEs C A (FS F ρ) F.env es ds)
    (he : starEach (e :: es) F.env = (false, eval e F.env) :: starEach es F.env := by with_unfolding_all rfl) : EvEs C A (FS F ρ) F.env (e :: es) (d :: ds) := EvEs.cons (ok W ρ) h r he
theorem item (W : Wk C A F k ns gs) {value slice : PySem.Expr} {pos : Pos} {d d' : PyData} {ds : List PyData} {i : Int} {j : Nat} (h1 : EvE C A (FS F ρ) F.env value d) (h2 : EvE C A (FS F ρ) F.env slice (.int i))
    (hd : d = .list ds ∨ d = .tuple ds) (hz : ds.length ≤ 2 ^ 40) (hj : seqIndex? i ds.length = some j) (hx : ds[j]? = some d')
    (hs : notSlice slice = true := by with_unfolding_all rfl) : EvE C A (FS F ρ) F.env (.Subscript value slice pos) d' :=
  EvE.item (ok W ρ) h1 h2 hd hz hj hx hs
theorem ownItem (W : Wk C A F k ns gs) {x : Str} {np pos : Pos} {slice : PySem.Expr} {i : Nat} {ds : List PyData} {d' : PyData} {q : Int} {j : Nat} (hv : Var ns ρ x i (.own ds)) (h2 : EvE C A (FS F ρ) F.env slice (.int q))
    (hz : ds.length ≤ 2 ^ 40) (hj : seqIndex? q ds.length = some j) (hx : ds[j]? = some d')
    (hs : notSlice slice = true := by with_unfolding_all rfl) : EvE C A (FS F ρ) F.env (.Subscript (.Name x np) slice pos) d' :=
  EvE.ownItem W.hF (W.hns ▸ hv) h2 hz hj hx hs
theorem neg (W : Wk C A F k ns gs) {e : PySem.Expr} {i : Int} {pos : Pos} (h : EvE C A (FS F ρ) F.env e (.int i)) : EvE C A (FS F ρ) F.env (.UnaryOp .USub e pos) (.int (-i)) := EvE.neg (ok W ρ) h
theorem not (W : Wk C A F k ns gs) {e : PySem.Expr} {b : Bool} {pos : Pos} (h : EvE C A (FS F ρ) F.env e (.bool b)) : EvE C A (FS F ρ) F.env (.UnaryOp .Not e pos) (.bool (!b)) := EvE.not (ok W ρ) h
theorem and (W : Wk C A F k ns gs) {e e2 : PySem.Expr} {es : List PySem.Expr} {b c : Bool} {pos : Pos} (h : EvE C A (FS F ρ) F.env e (.bool b)) (r : b = true → EvE C A (FS F ρ) F.env (.BoolOp .And (e2 :: es) pos) (.bool c)) :
    EvE C A (FS F ρ) F.env (.BoolOp .And (e :: e2 :: es) pos) (.bool (b && c)) := EvE.and (ok W ρ) h r
theorem or (W : Wk C A F k ns gs) {e e2 : PySem.Expr} {es : List PySem.Expr} {b c : Bool} {pos : Pos} (h : EvE C A (FS F ρ) F.env e (.bool b)) (r : b = false → EvE C A (FS F ρ) F.env (.BoolOp .Or (e2 :: es) pos) (.bool c)) :
    EvE C A (FS F ρ) F.env (.BoolOp .Or (e :: e2 :: es) pos) (.bool (b || c)) := EvE.or (ok W ρ) h r
theorem andB (W : Wk C A F k ns gs) {e : PySem.Expr} {es : List PySem.Expr} {b c : Bool} {pos : Pos} (h : EvB C A (FS F ρ) F.env e b) (r : b = true → EvB C A (FS F ρ) F.env (.BoolOp .And es pos) c) : EvB C A (FS F ρ) F.env (.BoolOp .And (e :: es) pos) (b && c) :=
  EvB.and (ok W ρ) h r
theorem orB (W : Wk C A F k ns gs) {e : PySem.Expr} {es : List PySem.Expr} {b c : Bool} {pos : Pos} (h : EvB C A (FS F ρ) F.env e b) (r : b = false → EvB C A (FS F ρ) F.env (.BoolOp .Or es pos) c) : EvB C A (FS F ρ) F.env (.BoolOp .Or (e :: es) pos) (b || c) :=
  EvB.or (ok W ρ) h r
theorem plainB (W : Wk C A F k ns gs) {e : PySem.Expr} {b : Bool} (h : EvE C A (FS F ρ) F.env e (.bool b)) (he : ∀ whole, isTrue e F.env whole = (do let v ← whole; standAt e.pos; holding [v] (truthy v)) := by intro _; with_unfolding_all rfl) : EvB C A (FS F ρ) F.env e b :=
  EvB.plain (ok W ρ) h he

theorem gl (W : Wk C A F k ns gs) {x : Str} {a : Addr} (hx : x ∈ gs) (h : Gl C x a) : NmV C A (FS F ρ) F.env x (.ref a) := NmV.glob (ok W ρ) W.hF.hk W.hF.hg (W.hG x hx).1 (W.hG x hx).2 h
theorem bi (W : Wk C A F k ns gs) {x : Str} {v : Value} (hx : x ∈ gs) (h : Bi C x v) : NmV C A (FS F ρ) F.env x v := NmV.bi (ok W ρ) W.hF.hk W.hF.hg W.hF.hb (W.hG x hx).1 (W.hG x hx).2 h.1 h.2.1 h.2.2

theorem call (W : Wk C A F k ns gs) {x : Str} {np pos : Pos} {e : PySem.Expr} {es : List PySem.Expr} {f : Addr} {k' : Nat} {ds : List PyData} {d : PyData} (hx : x ∈ gs) (hg : Gl C x f) (hfn : IsFn C f) (ha : EvEs C A (FS F ρ) F.env (e :: es) ds)
    (hf : FnOK C f k' ds d) (hk : k' ≤ k) (he : starEach (e :: es) F.env = (false, eval e F.env) :: starEach es F.env := by with_unfolding_all rfl) (h9 : k ≤ 100 := by decide) : EvE C A (FS F ρ) F.env (.Call (.Name x np) (e :: es) [] pos) d :=
  EvE.call (ok W ρ) ((W.rm h9).le hk) (W.hh h9) (gl W hx hg) hfn ha hf he
theorem callB (W : Wk C A F k ns gs) {x : Str} {np pos : Pos} {e : PySem.Expr} {es : List PySem.Expr} {id : String} {ds : List PyData} {d : PyData} (hx : x ∈ gs) (hb : Bi C x (.builtin id)) (ha : EvEs C A (FS F ρ) F.env (e :: es) ds)
    (hf : BiOK C A (.builtin id) ds d) (he : starEach (e :: es) F.env = (false, eval e F.env) :: starEach es F.env := by with_unfolding_all rfl) (hp : (backTo pos (starEach es F.env)).any (·.1) = false := by with_unfolding_all rfl) : EvE C A (FS F ρ) F.env (.Call (.Name x np) (e :: es) [] pos) d :=
  EvE.callB (ok W ρ) (bi W hx hb) ha hf he hp
theorem callT (W : Wk C A F k ns gs) {x : Str} {np pos : Pos} {e : PySem.Expr} {es : List PySem.Expr} {id : String} {ds : List PyData} {d : PyData} (hx : x ∈ gs) (hb : Bi C x (.type id)) (ha : EvEs C A (FS F ρ) F.env (e :: es) ds)
    (hf : BiOK C A (.type id) ds d) (he : starEach (e :: es) F.env = (false, eval e F.env) :: starEach es F.env := by with_unfolding_all rfl) (hp : (backTo pos (starEach es F.env)).any (·.1) = false := by with_unfolding_all rfl) : EvE C A (FS F ρ) F.env (.Call (.Name x np) (e :: es) [] pos) d :=
  EvE.callT (ok W ρ) (bi W hx hb) ha hf he hp
theorem bmax (W : Wk C A F k ns gs) {i j : Int} (h9 : k ≤ 100 := by decide) : BiOK C A (.builtin "max") [.int i, .int j] (.int (if j > i then j else i)) := bi_max (W.hh h9)
theorem bmin (W : Wk C A F k ns gs) {i j : Int} (h9 : k ≤ 100 := by decide) : BiOK C A (.builtin "min") [.int i, .int j] (.int (if j < i then j else i)) := bi_min (W.hh h9)

/-- isinstance against a built-in class -/
inductive IsiR : PyData → String → Bool → Prop
  | int_int {i : Int} : IsiR (.int i) "int" true
  | int_bool {i : Int} : IsiR (.int i) "bool" false
  | bool_bool {b : Bool} : IsiR (.bool b) "bool" true
  | tuple {ds : List PyData} : IsiR (.tuple ds) "tuple" true
  | list {ds : List PyData} : IsiR (.list ds) "list" true
theorem isi (W : Wk C A F k ns gs) {x y : Str} {np pos yp : Pos} {e : PySem.Expr} {T : String} {d : PyData} {b : Bool} (hx : x ∈ gs) (hb : Bi C x (.builtin "isinstance")) (hy : y ∈ gs) (hT : Bi C y (.type T)) (h : EvE C A (FS F ρ) F.env e d) (hr : IsiR d T b)
    (he : starEach [e, .Name y yp] F.env = (false, eval e F.env) :: starEach [.Name y yp] F.env := by with_unfolding_all rfl) (hp : (backTo pos (starEach [.Name y yp] F.env)).any (·.1) = false := by with_unfolding_all rfl) : EvE C A (FS F ρ) F.env (.Call (.Name x np) [e, .Name y yp] [] pos) (.bool b) := fun Z s K E hs hK => by
  refine Call_ (bi W hx hb np Z s _ E hs (PyProof.Rows.callWith_builtin1 (args_cons (h Z s _ E hs fun v Z1 s1 x1 r1 => args_cons (bi W hy hT yp Z1 s1 _ E ((ok W ρ).ext hs x1) (args_nil ?_)) rfl) he) he hp))
  have H := (ok W ρ).has ((ok W ρ).ext hs x1)
  cases hr with
  | int_int => obtain ⟨t, rfl⟩ := r1.intAt; exact IsiPair.int_int (hK _ _ _ x1 (.bool _))
  | int_bool => obtain ⟨t, rfl⟩ := r1.intAt; exact IsiPair.int_bool (hK _ _ _ (x1.trans (.toks _)) (.bool _))
  | bool_bool => rw [r1.boolAt]; exact IsiPair.bool_bool (hK _ _ _ x1 (.bool _))
  | tuple => cases r1 with | tuple hm hc hd r => exact IsiPair.tuple_tuple (H _ hm) hc (hK _ _ _ x1 (.bool _))
  | list => cases r1 with | list hm hc hd r => exact IsiPair.list_list (H _ hm) hc (hK _ _ _ x1 (.bool _))

/-! statements -/
theorem assign (W : Wk C A F k ns gs) {x : Str} {px pos : Pos} {e : PySem.Expr} {d : PyData} {i : Nat} {Q : Out → Prop} (he : EvE C A (FS F ρ) F.env e d) (hu : Upd ns ρ x (.dat d) i ρ') (hq : Q (.next ρ'))
    (hs : swapsWith e (some (.Name x px)) pos.line F.env = pure false := by with_unfolding_all rfl) : Ex1 C A F ρ (.Assign [.Name x px] e pos) Q := Ex1.assign W.hF he (W.hns ▸ hu) hq hs
theorem assignOwn (W : Wk C A F k ns gs) {x : Str} {px pos lp : Pos} {es : List PySem.Expr} {ds : List PyData} {i : Nat} {Q : Out → Prop} (he : EvEs C A (FS F ρ) F.env es ds) (hu : Upd ns ρ x (.own ds) i ρ') (hz : ds.length ≤ 2 ^ 20) (hq : Q (.next ρ'))
    (hs : swapsWith (.List es lp) (some (.Name x px)) pos.line F.env = pure false := by with_unfolding_all rfl) : Ex1 C A F ρ (.Assign [.Name x px] (.List es lp) pos) Q := Ex1.assignOwn W.hF he (W.hns ▸ hu) hq hz hs
theorem append (W : Wk C A F k ns gs) {x : Str} {np apos cpos pos : Pos} {e : PySem.Expr} {d : PyData} {ds : List PyData} {i i' : Nat} {Q : Out → Prop} (hv : Var ns ρ x i (.own ds)) (he : EvE C A (FS F ρ) F.env e d) (hu : Upd ns ρ x (.own (ds ++ [d])) i' ρ')
    (hz : ds.length ≤ 2 ^ 20) (hq : Q (.next ρ'))
    (hs : swapsWith (.Call (.Attribute (.Name x np) "append" apos) [e] [] cpos) none pos.line F.env = pure false := by with_unfolding_all rfl)
    (hbase : attributeBase (.Name x np) "append" F.env (eval (.Name x np) F.env) = eval (.Name x np) F.env := by with_unfolding_all rfl)
    (hfew : ((backTo cpos (starEach [e] F.env)).all (fun x => !x.1) && (backToKw cpos (keywordEach [] F.env)).all (fun x => x.1.isSome)
      && decide (([e] : List PySem.Expr).length + ([] : List Keyword).length + (if ([] : List Keyword).isEmpty then 0 else 1) < 30)) = true := by with_unfolding_all rfl)
    (hline : (apos.endLine == cpos.line) = true := by with_unfolding_all rfl) (htrees : backTo cpos (starEach [e] F.env) = [(false, eval e F.env)] := by with_unfolding_all rfl) :
    Ex1 C A F ρ (.Expr (.Call (.Attribute (.Name x np) "append" apos) [e] [] cpos) pos) Q := Ex1.append W.hF (W.hns ▸ hv) he (W.hns ▸ hu) hq hz (noInter W.hF.hk) hs hbase hfew hline htrees
theorem freeze (W : Wk C A F k ns gs) {x : Str} {ds : List PyData} {i i' : Nat} {ss : List PySem.Stmt} {Q : Out → Prop} (hv : Var ns ρ x i (.own ds)) (hu : Upd ns ρ x (.dat (.list ds)) i' ρ') (h : ExS C A F ρ' ss Q) : ExS C A F ρ ss Q := ExS.freeze W.hF (W.hns ▸ hv) (W.hns ▸ hu) h
theorem unpack (W : Wk C A F k ns gs) {ts : List PySem.Expr} {n : Nat} {tp pos : Pos} {e : PySem.Expr} {ds : List PyData} {Q : Out → Prop} (he : EvE C A (FS F ρ) F.env e (.tuple ds)) (hu : AsgL ns ρ ts ds ρ') (hq : Q (.next ρ'))
    (hs : swapsWithSole [.Tuple ts n tp] e pos.line F.env = pure false := by with_unfolding_all rfl) (hw : swappedStores [.Tuple ts n tp] e F.env = pure none := by with_unfolding_all rfl) (h9 : k ≤ 100 := by decide) : Ex1 C A F ρ (.Assign [.Tuple ts n tp] e pos) Q := Ex1.unpack W.hF (W.hh h9) he (W.hns ▸ hu) hq hs hw
theorem tname (W : Wk C A F k ns gs) {x : Str} {px : Pos} {d : PyData} {i : Nat} (hu : Upd ns ρ x (.dat d) i ρ') : Asg C A F ρ (.Name x px) d ρ' := Asg.name W.hF (W.hns ▸ hu)
theorem ttuple (W : Wk C A F k ns gs) {ts : List PySem.Expr} {ds : List PyData} {n : Nat} {pos : Pos} (h : AsgL ns ρ ts ds ρ') (h9 : k ≤ 100 := by decide) : Asg C A F ρ (.Tuple ts n pos) (.tuple ds) ρ' := Asg.tuple W.hF (W.hh h9) (W.hns ▸ h)
theorem forSeq (W : Wk C A F k ns gs) {target iter : PySem.Expr} {body : List PySem.Stmt} {pos : Pos} {d : PyData} {ds : List PyData} {Q : Out → Prop} (P : Nat → List Slot) (he : EvE C A (FS F ρ) F.env iter d) (hd : d = .list ds ∨ d = .tuple ds)
    (h0 : Sub (P 0) ρ) (turn : ∀ k x, ds[k]? = some x → ∃ ρ', Asg C A F (P k) target x ρ' ∧ ExS C A F ρ' body (LoopQ (P (k + 1)) Q)) (done : Q (.next (P ds.length)))
    (hs : ∀ x, foldedSetIterable iter F.env x = pure x := by intro _; with_unfolding_all rfl) (h9 : k ≤ 100 := by decide) : Ex1 C A F ρ (.For target iter body [] pos) Q := Ex1.forSeq W.hF (W.hh h9) he hd P h0 turn done hs
theorem forRange (W : Wk C A F k ns gs) {target iter : PySem.Expr} {body : List PySem.Stmt} {pos : Pos} {a : Int} {n : Nat} {Q : Out → Prop} (P : Nat → List Slot) (he : RangeE C A (FS F ρ) F.env iter a n)
    (h0 : Sub (P 0) ρ) (turn : ∀ k, k < n → ∃ ρ', Asg C A F (P k) target (.int (a + (k : Int))) ρ' ∧ ExS C A F ρ' body (LoopQ (P (k + 1)) Q)) (done : Q (.next (P n)))
    (hs : ∀ x, foldedSetIterable iter F.env x = pure x := by intro _; with_unfolding_all rfl) (h9 : k ≤ 100 := by decide) : Ex1 C A F ρ (.For target iter body [] pos) Q := Ex1.forRange W.hF (W.hh h9) he P h0 turn done hs
theorem range1 (W : Wk C A F k ns gs) {x : Str} {np pos : Pos} {e : PySem.Expr} {n : Nat} (hx : x ∈ gs) (hb : Bi C x (.type "range")) (h : EvE C A (FS F ρ) F.env e (.int n)) (hz : n < 2 ^ 60)
    (he : starEach [e] F.env = (false, eval e F.env) :: starEach [] F.env := by with_unfolding_all rfl) : RangeE C A (FS F ρ) F.env (.Call (.Name x np) [e] [] pos) 0 n := RangeE.one (ok W ρ) (bi W hx hb) h hz he
theorem range2 (W : Wk C A F k ns gs) {x : Str} {np pos : Pos} {e1 e2 : PySem.Expr} {a b : Int} (hx : x ∈ gs) (hn : Bi C x (.type "range")) (h1 : EvE C A (FS F ρ) F.env e1 (.int a)) (h2 : EvE C A (FS F ρ) F.env e2 (.int b)) (ha : -(2 ^ 60) ≤ a ∧ a < 2 ^ 60) (hb : -(2 ^ 60) ≤ b ∧ b < 2 ^ 60)
    (he : starEach [e1, e2] F.env = (false, eval e1 F.env) :: starEach [e2] F.env := by with_unfolding_all rfl) (he2 : starEach [e2] F.env = (false, eval e2 F.env) :: starEach [] F.env := by with_unfolding_all rfl) (hp : ∀ pos, (backTo pos (starEach [e2] F.env)).any (·.1) = false := by intro _; with_unfolding_all rfl) :
    RangeE C A (FS F ρ) F.env (.Call (.Name x np) [e1, e2] [] pos) a (b - a).toNat := RangeE.two (ok W ρ) (bi W hx hn) h1 h2 ha hb he he2 hp
end
end V
end Mine

namespace Mine
open PySem PySem.W PySem.Spec PySem.Calls PyProof.Rows

theorem ints_rps {Z : Led} : ∀ {vs : List Value} {ns : List Int}, IntsAre vs ns → Rps Z vs (ns.map .int)
  | _, _, .nil => .nil
  | _, _, .cons n t r => .cons (.int n t) (ints_rps r)

theorem ns_hide {h : Heap} {a b : Addr} {m : Str → Option Value} {o : Obj} (hn : h.Ns a m) (ho : h.get? b = some o) (hd : ∀ es n, o.data ≠ .dict es n) : (hideAll h [b]).Ns a m := by
  obtain ⟨oL, es, ep, h1, h2, h3⟩ := hn
  refine ⟨oL, es, ep, hideAll_get _ h1 fun q => ?_, h2, h3⟩
  rw [List.mem_singleton.mp q, ho] at h1
  obtain rfl := Option.some.inj h1
  exact hd _ _ h2

theorem TopX.hide {C : Cx} {h : Heap} {a : Addr} {o : Obj} (T : TopX C h) (ho : h.get? a = some o) (hd : ∀ es n, o.data ≠ .dict es n) (hc : ∀ cd, o.data ≠ .cls cd) : TopX C (hideAll h [a]) := by
  have kc : ∀ b ob cd, h.get? b = some ob → ob.data = .cls cd → (hideAll h [a]).get? b = some ob := fun b ob cd e q => hideAll_get _ e fun z => by
    rw [List.mem_singleton.mp z, ho] at e
    exact hc cd (Option.some.inj e ▸ q)
  refine ⟨⟨ns_hide T.top.g ho hd, ns_hide T.top.b ho hd, (by obtain ⟨mc, h1, h2⟩ := T.top.nolimit; exact ⟨mc, ns_hide h1 ho hd, h2⟩), T.top.builtins, T.top.free⟩, fun x hx => ?_⟩
  obtain ⟨c, O⟩ := T.own x hx
  obtain ⟨bm, N, nm, q, bs, hdct, sn, sub, ab, col, dd, k0, k1, k2, k3, k5, mN, hC, hN, hq, W⟩ := O.obj
  refine ⟨c, O.bound, bm, N, nm, q, bs, hdct, sn, sub, ab, col, dd, k0, k1, k2, k3, k5, mN, kc _ _ _ hC rfl, ns_hide hN ho hd, hq, ?_⟩
  clear hC
  induction W with
  | base => exact .base
  | own hA hn hq' _ ih => exact .own (kc _ _ _ hA rfl) (ns_hide hn ho hd) hq' ih

theorem TopX.of {prog : Program} {w : World} {K : Frag} {p : Program} {loose : List Str} {mean : ExcName → Option Value} {mg mb : Str → Option Value} {exs : List Str} {h : Heap} (T : Top p loose mean mg mb h) (hs : ∀ x ∈ exs, specOf p x = some ("ValueError.__new__", valBm)) : TopX ⟨prog, w, K, p, loose, mg, mb, exs⟩ h :=
  ⟨topRead_of T, fun x hx => let ⟨c, O, _⟩ := T.ownAt (hs x hx); ⟨c, O⟩⟩
end Mine
namespace Mine
open PySem PySem.W PySem.Spec PySem.Calls PyProof.Rows
section
variable {prog : Program} {w : World} {K : Frag} {p : Program} {loose : List Str} {mg mb : Str → Option Value} {exs : List Str}
theorem DefAt.mk' {f : Addr} {params : Arguments} {body : List PySem.Stmt} {scope : Scope} {name qual : Str} {dV kV doc pm cdv ct oc : Value} {an od : Option Addr} {osl : Array (Option Value)}
    (h1 : K.lookup f = some ⟨oc, od, .func (fnOf name qual params body scope dV kV doc pm an cdv ct), osl⟩) (h2 : codeIn K cdv qual = true)
    (h3 : ∀ vs : List Value, vs.length = params.args.length → bindArgs (fnOf name qual params body scope dV kV doc pm an cdv ct) ⟨vs, []⟩ = pure ((params.args.map (·.arg)).zip vs)) : DefAt ⟨prog, w, K, p, loose, mg, mb, exs⟩ f params body scope :=
  ⟨name, qual, dV, kV, doc, pm, an, cdv, ct, oc, od, osl, h1, h2, h3⟩
theorem Gl.mk {x : Str} {a : Addr} (h : nsIn K mainGlobals x = some (some (.ref a))) : Gl ⟨prog, w, K, p, loose, mg, mb, exs⟩ x a := h
theorem Bi.mk {x : Str} {v : Value} (h : nsIn K mainGlobals x = some none) (h2 : bootBuiltins x = some v) (h3 : x ≠ "__name__") : Bi ⟨prog, w, K, p, loose, mg, mb, exs⟩ x v := ⟨h, h2, h3⟩
end
theorem mem_of_lookupN {K : Frag} : ∀ {b : Addr} {o : Obj}, K.lookup b = some o → (b, o) ∈ K := by
  induction K with
  | nil => intro b o h; cases h
  | cons p r ih =>
    intro b o h
    obtain ⟨a, x⟩ := p
    rw [List.lookup_cons] at h
    split at h
    · rename_i e
      have : b = a := by simpa using e
      subst this
      cases h; exact .head _
    · exact .tail _ (ih h)
theorem noList {K : Frag} (h : K.all (fun p => p.2.cls != .type "list") = true) : ∀ b o, K.lookup b = some o → o.cls ≠ .type "list" := fun b o e => by
  have := List.all_eq_true.mp h _ (mem_of_lookupN e)
  simpa using this
theorem argsN1 {P : List Value → Prop} (h : ∀ a, P [a]) : ∀ vs : List Value, vs.length = 1 → P vs
  | [a], _ => h a
theorem argsN2 {P : List Value → Prop} (h : ∀ a b, P [a, b]) : ∀ vs : List Value, vs.length = 2 → P vs
  | [a, b], _ => h a b
theorem argsN3 {P : List Value → Prop} (h : ∀ a b c, P [a, b, c]) : ∀ vs : List Value, vs.length = 3 → P vs
  | [a, b, c], _ => h a b c
theorem argsN4 {P : List Value → Prop} (h : ∀ a b c d, P [a, b, c, d]) : ∀ vs : List Value, vs.length = 4 → P vs
  | [a, b, c, d], _ => h a b c d
theorem argsN5 {P : List Value → Prop} (h : ∀ a b c d e, P [a, b, c, d, e]) : ∀ vs : List Value, vs.length = 5 → P vs
  | [a, b, c, d, e], _ => h a b c d e
theorem argsN6 {P : List Value → Prop} (h : ∀ a b c d e f, P [a, b, c, d, e, f]) : ∀ vs : List Value, vs.length = 6 → P vs
  | [a, b, c, d, e, f], _ => h a b c d e f
end Mine

namespace Mine
open PySem PySem.W PySem.Spec PySem.Calls PyProof.Rows

/-! ## while, chained comparisons, enumerate -/
section
variable {C : Cx} {A : Around} {F : Fx} {ρ ρ' : List Slot} {pin Z : Led} {s : Shared}

theorem Ex1.while_ (hF : FxOK C A F) {test : PySem.Expr} {body : List PySem.Stmt} {pos : Pos} {Q : Out → Prop} (n : Nat) (P : Nat → List Slot) (h0 : Sub (P 0) ρ)
    (turn : ∀ k, k < n → EvB C A (FS F (P k)) F.env test true ∧ ExS C A F (P k) body (LoopQ (P (k + 1)) Q)) (last : EvB C A (FS F (P n)) F.env test false) (done : Q (.next (P n))) : Ex1 C A F ρ (.While test body [] pos) Q := fun pin Z s K hst hK => by
  refine wpAny_While (codeAny_whileLoop (fun j s' => ∃ k Z', j = n + 1 - k ∧ k ≤ n ∧ FSt F (P k) pin Z' s' ∧ Fwd Z s Z' s') ?_ (n + 1) ⟨0, Z, rfl, Nat.zero_le _, hst.weaken h0, .refl⟩)
  rintro j s' ⟨k, Z', rfl, hk, hst', hz'⟩
  by_cases hlt : k < n
  · obtain ⟨ht, hb⟩ := turn k hlt
    refine ht Z' s' _ _ ⟨pin, hst'⟩ fun Z1 s1 x1 => ?_
    simp only [if_true]
    refine wpAny_mono (hb pin Z1 s1 (fun f s₄ => ∃ o Z₄, LoopQ (P (k + 1)) Q o ∧ OutAt F pin o f Z₄ s₄ ∧ Fwd Z1 s1 Z₄ s₄) (hst'.ext x1) fun o fl Z₄ s₄ q1 q2 q3 => ⟨o, Z₄, q1, q2, q3⟩) (fun f s₄ h₄ => ?_) fun _ _ x => x.elim
    obtain ⟨o, Z₄, q1, q2, q3⟩ := h₄
    have hz₄ : Fwd Z s Z₄ s₄ := hz'.trans (x1.fwd.trans q3)
    cases o with
    | next R' => obtain ⟨rfl, q2⟩ := q2; exact ⟨n + 1 - (k + 1), by omega, k + 1, Z₄, rfl, hlt, q2.weaken q1, hz₄⟩
    | cont R' => obtain ⟨rfl, q2⟩ := q2; exact ⟨n + 1 - (k + 1), by omega, k + 1, Z₄, rfl, hlt, q2.weaken q1, hz₄⟩
    | brk R' => obtain ⟨rfl, q2⟩ := q2; exact hK _ _ Z₄ s₄ q1 ⟨rfl, q2⟩ hz₄
    | ret d => obtain ⟨v, R', rfl, r, q2⟩ := q2; exact hK _ _ Z₄ s₄ q1 ⟨v, R', rfl, r, q2⟩ hz₄
  · have hkn : k = n := by omega
    subst hkn
    refine last Z' s' _ _ ⟨pin, hst'⟩ fun Z1 s1 x1 => ?_
    simp only [Bool.false_eq_true, if_false]
    exact wpAny_execs_nil (hK _ _ Z1 s1 done ⟨rfl, hst'.ext x1⟩ (hz'.trans x1.fwd))

theorem EvB.chain2 {St : Led → Shared → Prop} {env : Env} (O : Okay C A St) (hu : A.units + 200 < cLine) {l m r : PySem.Expr} {op1 op2 : PySem.CmpOp} {pos : Pos} {d1 d2 d3 : PyData} {b1 b2 : Bool}
    (h1 : EvE C A St env l d1) (h2 : EvE C A St env m d2) (h3 : EvE C A St env r d3) (hb1 : CmpR op1 d1 d2 b1) (hb2 : CmpR op2 d2 d3 b2)
    (hm : lastMarks [op1, op2] [m, r] = false := by with_unfolding_all rfl) : EvB C A St env (.Compare l [op1, op2] [m, r] pos) (b1 && b2) := fun Z s K E hs hK => by
  refine isTrue_chain (h1 Z s _ E hs fun v1 Z1 s1 x1 r1 => test_link (h2 Z1 s1 _ E (O.ext hs x1) fun v2 Z2 s2 x2 r2 => ?_)) hm
  have hs2 := O.ext (O.ext hs x1) x2
  refine cmpR_ok hu hb1 (O.has hs2) (r1.mono x2.sub) r2 fun Z3 s3 x3 => wpAny_truthy_bool ?_
  cases b1 with
  | false => exact hK _ _ ((x1.trans x2).trans x3)
  | true =>
    simp only [if_true, Bool.true_and] at hK ⊢
    have hs3 := O.ext hs2 x3
    refine test_last (h3 Z3 s3 _ E hs3 fun v3 Z4 s4 x4 r3 => ?_)
    exact cmpR_ok hu hb2 (O.has (O.ext hs3 x4)) ((r2.mono x3.sub).mono x4.sub) r3 fun Z5 s5 x5 => wpAny_truthy_bool (hK _ _ ((((x1.trans x2).trans x3).trans x4).trans x5))

/-- new objects become pins -/
theorem FSt.pinMany {s' : Shared} : ∀ {ws : Led}, FSt F ρ pin Z s → (∀ b o, s.heap.get? b = some o → s'.heap.get? b = some o) → (∀ p ∈ ws, s.heap.get? p.1 = none) → (∀ p ∈ ws, s'.heap.get? p.1 = some p.2) → FSt F ρ (ws ++ pin) Z s' := by
  intro ws ⟨m, muts, oa, h⟩ hk hn ho
  refine ⟨m, muts, oa, ⟨h.fr.ns.keeps hk, fun b o e => hk b o (h.fr.keep b o e), h.fr.above⟩, fun p hp => ?_, fun p hp q hq => ?_, fun p hp q hq => ?_, h.slots, h.inj, h.cells⟩
  · rcases List.mem_append.mp hp with hp | hp
    · rcases List.mem_append.mp hp with hp | hp
      · refine ⟨ho p hp, fun e => ?_, none_of_keep h.fr.keep (hn p hp)⟩
        obtain ⟨oL, _, _, hL', _⟩ := h.fr.ns
        have := hn p hp
        rw [e, hL'] at this; cases this
      · have q := h.nw p (by simp [hp]); exact ⟨hk _ _ q.1, q.2⟩
    · have q := h.nw p (List.mem_append_right _ hp); exact ⟨hk _ _ q.1, q.2⟩
  · rcases List.mem_append.mp hq with hq | hq
    · rcases List.mem_append.mp hq with hq | hq
      · intro e
        have := (h.nw p (by simp [hp])).1
        rw [e, hn q hq] at this; cases this
      · exact h.d1 p hp q (by simp [hq])
    · exact h.d1 p hp q (by simp [hq])
  · rcases List.mem_append.mp hp with hp | hp
    · intro e
      have := (h.nw q (by simp [hq])).1
      rw [← e, hn p hp] at this; cases this
    · exact h.d2 p hp q hq

theorem nextOf_tuple_item {it l : Addr} {i : Nat} {items : Array Value} {x : Value} {Q : Value → Shared → Prop} {E : Value → Shared → Prop} {prog : Program} {w : World} (hit : s.heap.IsTupleIter it l i)
    (hl : s.heap.IsTuple l items) (hx : items[i]? = some x)
    (hQ : ∀ h', h'.IsTupleIter it l (i + 1) → Heap.SameBut it s.heap h' → Q x { s with heap := h' }) :
    wpAny (model prog w) A (Builtin.SmallTypes.nextOf (.ref it)) Q E s := by
  obtain ⟨o, ho, hc, hd⟩ := id hit
  obtain ⟨ol, hol, _, nl, hdl⟩ := hl
  unfold Builtin.SmallTypes.nextOf
  refine wpAny_bind (wpAny_callSpecial?_slot (name := Str.ofString "__next__") hit.typeIs F.slot_tuple_iterator_next
    (wpAny_call_entry F.slot_tuple_iterator_next hit.typeIs F.entry_tuple_iterator_next ?_ (F.args_tuple_iterator_next_1 _)))
  show wpAny _ _ (field (.ref it) 0 >>= _) _ _ s
  refine wpAny_bind (wpAny_field ho hd (x := .ref l) rfl ?_)
  show wpAny _ _ (if (Value.ref l == Value.none) = true then _ else _) _ _ s
  rw [if_neg (show ¬ ((Value.ref l == Value.none) = true) from Bool.false_ne_true)]
  show wpAny _ _ (field (.ref it) 1 >>= _) _ _ s
  refine wpAny_bind (wpAny_field ho hd (x := .int i 0) rfl ?_)
  show wpAny _ _ (seqItems? (.ref l) >>= _) _ _ s
  refine wpAny_bind (wpAny_seqItems hol hdl ?_)
  simp only [Int.toNat_natCast, hx]
  refine wpAny_bind (wpAny_setField ho hd (by simp) (wpAny_pure ⟨x, rfl, wpAny_pure (hQ _ ?_ (Heap.SameBut.update ..))⟩))
  exact ⟨_, Heap.get?_update_self _ ho (Obj.isFreed_of_fields (Obj.data_mapFields hd _)), (Obj.cls_mapFields ..).trans hc, by
    rw [Obj.data_mapFields hd]; simp [rawInt]⟩

theorem nextOf_tuple_end {it l : Addr} {i : Nat} {items : Array Value} {Q : Value → Shared → Prop} {E : Value → Shared → Prop} {prog : Program} {w : World} (hh : A.handled = none)
    (hit : s.heap.IsTupleIter it l i) (hl : s.heap.IsTuple l items) (hx : items[i]? = none)
    (hE : ∀ h' e, Heap.ExtBut it s.heap h' → (∃ o, h'.get? e = some o ∧ o.cls = .type "StopIteration") → E (.ref e) { s with heap := h' }) :
    wpAny (model prog w) A (Builtin.SmallTypes.nextOf (.ref it)) Q E s := by
  obtain ⟨o, ho, hc, hd⟩ := id hit
  obtain ⟨ol, hol, _, nl, hdl⟩ := hl
  unfold Builtin.SmallTypes.nextOf
  refine wpAny_bind (wpAny_callSpecial?_slot (name := Str.ofString "__next__") hit.typeIs F.slot_tuple_iterator_next
    (wpAny_call_entry F.slot_tuple_iterator_next hit.typeIs F.entry_tuple_iterator_next ?_ (F.args_tuple_iterator_next_1 _)))
  show wpAny _ _ (field (.ref it) 0 >>= _) _ _ s
  refine wpAny_bind (wpAny_field ho hd (x := .ref l) rfl ?_)
  show wpAny _ _ (if (Value.ref l == Value.none) = true then _ else _) _ _ s
  rw [if_neg (show ¬ ((Value.ref l == Value.none) = true) from Bool.false_ne_true)]
  show wpAny _ _ (field (.ref it) 1 >>= _) _ _ s
  refine wpAny_bind (wpAny_field ho hd (x := .int i 0) rfl ?_)
  show wpAny _ _ (seqItems? (.ref l) >>= _) _ _ s
  refine wpAny_bind (wpAny_seqItems hol hdl ?_)
  simp only [Int.toNat_natCast, hx]
  refine wpAny_bind (wpAny_rule (wpAny_bind (wpAny_setField ho hd (by simp) ?_)))
  show wpAny _ _ (newExc (.type "StopIteration") [] >>= _) _ _ _
  refine wpAny_bind ?_
  simp only [newExc, newTuple]
  refine wpAny_bind (wpAny_newObj_type ?_ (by size_fits))
  refine wpAny_bind (m := firstArgMember _ _) (wpAny_of_eq (a := Value.none) (by first | rfl | (simp only [firstArgMember]; rfl)) ?_)
  refine wpAny_newObj_type ?_ (by size_fits)
  simp only [raiseNew]
  refine wpAny_bind (wpAny_handled ?_)
  first | rw [show A.in1.handled = none from hh] | rw [hh]
  refine wpAny_bind (wpAny_pure (wpAny_throw ?_))
  exact hE _ _ (((Heap.SameBut.update ..).extBut.push _).push _) ⟨_, Heap.get?_push_size _ rfl, rfl⟩

theorem draws_tuple {prog : Program} {w : World} {A : Around} (hh : A.handled = none) (it l : Addr) (hne : l ≠ it) (items : Array Value) :
    Draws prog w A it [it, l] items.size (fun i v => items[i]? = some v) (fun i h => h.IsTupleIter it l i ∧ h.IsTuple l items) where
  live := fun _ _ st => let ⟨o, ho, _⟩ := st.1; ⟨o, ho⟩
  frame := fun _ _ _ st hk => ⟨st.1.at fun o e => hk it (by simp) o e, st.2.at fun o e => hk l (by simp) o e⟩
  item := fun i s Q E hi st hQ => by
    refine nextOf_tuple_item st.1 st.2 (x := items[i]) (by simp [hi]) fun h' hit' hs' => ?_
    exact hQ _ h' s.toks (by simp [hi]) ⟨hit', st.2.extBut hs'.extBut hne⟩ hs'
  done := fun s Q E st hE => nextOf_tuple_end hh st.1 st.2 (by simp) hE

open AutoSeq1 (wpAny_loadPart') in
theorem enumerate_newT (l : Addr) (items : Array Value) (n : Nat) (dct : Option Addr) (sl : Array (Option Value)) :
    Meets (Builtin.«enumerate.__new__» ⟨[.type "enumerate", .ref l], []⟩) (fun _ R s => s.heap.get? l = some { cls := .type "tuple", dict := dct, data := .seq items n, slots := sl } ∧
      R (.ok (.ret (.ref (s.heap.push { cls := .type "tuple_iterator", data := .fields #[.ref l, .int 0 0] }).objs.size)))
        { s with heap := (s.heap.push { cls := .type "tuple_iterator", data := .fields #[.ref l, .int 0 0] }).push { cls := .type "enumerate", data := .fields #[.none, .bool false, .ref s.heap.objs.size, rawInt 0, .none, .none] } }) :=
  .of_wp fun prog w A R s h => by
    obtain ⟨hp, g, d, tk, os⟩ := s; obtain ⟨hl, h⟩ := h
    have hsub := sub_enumerate
    have hL : Heap.IsTuple (Shared.heap ⟨hp, g, d, tk, os⟩) l items := ⟨_, hl, rfl, n, rfl⟩
    wp_walk using wpAny_loadPart' hl
    refine wpAny_stack_any fun st => wpAny_pure ?_
    split
    · rename_i c _ _ _ _ _
      cases (c == Value.type "enumerate")
      · wp_walk using wpAny_loadPart' hl, wpAny_pyIter_tuple hL
        exact ⟨_, rfl, h⟩
      · wp_walk using wpAny_loadPart' hl, wpAny_pyIter_tuple hL
        exact ⟨_, rfl, h⟩
    · wp_walk using wpAny_loadPart' hl, wpAny_pyIter_tuple hL
      exact ⟨_, rfl, h⟩

theorem call_enumerate_tuple {prog : Program} {w : World} {E : Value → Shared → Prop} {l : Addr} {items : Array Value} {Q : Value → Shared → Prop} (hL : s.heap.IsTuple l items)
    (h : ∀ h', IsEnum h' (s.heap.objs.size + 1) s.heap.objs.size 0 .none → h'.IsTupleIter s.heap.objs.size l 0 → h'.objs.size = s.heap.objs.size + 2 →
      (∀ b o, s.heap.get? b = some o → h'.get? b = some o) → Q (.ref (s.heap.objs.size + 1)) { s with heap := h' }) :
    wpAny (model prog w) A (call (.type "enumerate") [.ref l]) Q E s := by
  obtain ⟨⟨c, dct, dt, sl⟩, hl, hc, n, hd⟩ := hL
  replace hc : c = .type "tuple" := hc
  replace hd : dt = .seq items n := hd
  subst hc hd
  refine callType_new F.called_enumerate (by decide) (F.typeCall_enumerate_1 _) (F.newCall_enumerate_1 _) (fun obj => F.args_object_init_2 obj _) F.entry_enumerate_new
    (enumerate_newT l items n dct sl) ⟨hl, ?_⟩
  have hz : (s.heap.push { cls := .type "tuple_iterator", data := .fields #[.ref l, .int 0 0] }).objs.size = s.heap.objs.size + 1 := Heap.size_push ..
  show _ ∧ _
  rw [hz]
  have he : IsEnum ((s.heap.push { cls := .type "tuple_iterator", data := .fields #[.ref l, .int 0 0] }).push
      { cls := .type "enumerate", data := .fields #[.none, .bool false, .ref s.heap.objs.size, rawInt 0, .none, .none] }) (s.heap.objs.size + 1) s.heap.objs.size 0 .none := by
    have := Heap.get?_push_size (s.heap.push { cls := .type "tuple_iterator", data := .fields #[.ref l, .int 0 0] })
      (o := { cls := .type "enumerate", data := .fields #[.none, .bool false, .ref s.heap.objs.size, rawInt 0, .none, .none] }) rfl
    rw [hz] at this; exact this
  refine ⟨⟨_, he, rfl⟩, h _ he ⟨_, Heap.get?_push_of_some _ (Heap.get?_push_size _ rfl), rfl, rfl⟩ (by rw [Heap.size_push, hz]) fun b o x => Heap.get?_push_of_some _ (Heap.get?_push_of_some _ x)⟩

/-- enumerate over a list or a tuple that stands in the ledger -/
theorem Itr.enum {elts : List PySem.Expr} {kk : Nat} {tp : Pos} {e it : Addr} {fp : List Addr} {ds : List PyData} {vs : List Value} {StI : Nat → Heap → Prop} {Z₀ : Led}
    (D : Draws C.prog C.w A.in1 it fp vs.length (fun i v => vs[i]? = some v) StI) (hei : e ≠ it) (hef : e ∉ fp) (hif : it ∈ fp) (hfoot : ∀ b ∈ fp, b = it ∨ ∃ o, (b, o) ∈ Z₀) (hi : Rps Z₀ vs ds) :
    Itr C A (.Tuple elts kk tp) e [e, it] (e :: fp) ds.length (fun i => .tuple [.int i, ds.getD i .none]) (fun i h => (∃ old, IsEnum h e it i old) ∧ StI i h) Z₀ := by
  have l0 := hi.length
  have W := WalksT.enumerateD D e hei hef hif
  rw [l0] at W
  refine ⟨W.frame, fun i h hs b hb => ?_, fun b hb => ?_, fun i Z s K hi' hs H hz hoff hK => ?_, fun s K hs hK => W.done s _ _ hs hK⟩
  · rcases List.mem_cons.mp hb with rfl | hb
    · obtain ⟨⟨_, ho⟩, _⟩ := hs; exact ⟨_, ho⟩
    · rw [List.mem_singleton.mp hb]; exact D.live _ _ hs.2
  · rcases List.mem_cons.mp hb with rfl | hb
    · exact .inl (by simp)
    · rcases hfoot b hb with rfl | q
      · exact .inl (by simp)
      · exact .inr q
  · refine W.item i s _ _ hi' hs fun T vals h' tk hP hT hIs hMid hk => ?_
    obtain ⟨t, x, hx, rfl⟩ := hP
    have hap := W.apart i T h' hMid
    refine W.go elts kk tp i T { s with heap := h', toks := tk } _ _ hMid fun h'' hst hk' => ?_
    obtain ⟨o, ho, hc, n, hd⟩ := hIs
    have ho'' := hk' T o hap ho
    have hnT : s.heap.get? T = none := Heap.get?_none_of_le hT
    refine hK _ ((T, o) :: Z) h'' tk hst (fun b o hb y => hk' b o hb (hk b o hb y)) (fun p hp => .tail _ hp) (fun p hp => ?_) (.tuple (.head _) hc hd ?_)
    · rcases List.mem_cons.mp hp with rfl | hp
      · exact .inr ⟨hnT, ho''⟩
      · exact .inl hp
    · obtain ⟨d, e1, e2⟩ := hi.getV hx
      rw [List.getD_eq_getElem?_getD, e1]
      exact .cons (.int _ _) (.cons (e2.mono fun p hp => .tail _ (hz p hp)) .nil)

theorem Ex1.forEnum (hF : FxOK C A F) (hh : A.handled = none) {elts : List PySem.Expr} {kk : Nat} {tp : Pos} {x : Str} {np cp pos : Pos} {e : PySem.Expr} {body : List PySem.Stmt} {d : PyData} {ds : List PyData} {Q : Out → Prop}
    (hn : NmV C A (FS F ρ) F.env x (.type "enumerate")) (h : EvE C A (FS F ρ) F.env e d) (hd : d = .list ds ∨ d = .tuple ds)
    (P : Nat → List Slot) (h0 : Sub (P 0) ρ) (turn : ∀ k x, ds[k]? = some x → ∃ ρ', Asg C A F (P k) (.Tuple elts kk tp) (.tuple [.int k, x]) ρ' ∧ ExS C A F ρ' body (LoopQ (P (k + 1)) Q)) (done : Q (.next (P ds.length)))
    (hs : ∀ y, foldedSetIterable (.Call (.Name x np) [e] [] cp) F.env y = pure y := by intro _; with_unfolding_all rfl)
    (he : starEach [e] F.env = (false, eval e F.env) :: starEach [] F.env := by with_unfolding_all rfl) : Ex1 C A F ρ (.For (.Tuple elts kk tp) (.Call (.Name x np) [e] [] cp) body [] pos) Q := fun pin Z s K hst hK => by
  have turn' : ∀ k, k < ds.length → ∃ ρ', Asg C A F (P k) (.Tuple elts kk tp) (.tuple [.int k, ds.getD k .none]) ρ' ∧ ExS C A F ρ' body (LoopQ (P (k + 1)) Q) := fun k hk => by
    have : ds[k]? = some (ds.getD k .none) := by rw [List.getD_eq_getElem?_getD, List.getElem?_eq_getElem hk]; rfl
    exact turn k _ this
  refine wpAny_For (Call_ (hn np Z s _ _ ⟨pin, hst⟩ (PyProof.Rows.callWith_type1 ((EvEs.cons (hF.okay ρ) h EvEs.nil he) cp Z s _ _ ⟨pin, hst⟩ fun vs Z1 s1 x1 r1 => ?_) he))) hs
  cases r1 with
  | cons r1 r2 =>
  cases r2
  have hst1 := (hst.ext x1).weaken h0
  have H1 : HasL s1.heap Z1 := fun p hp => hst1.pins p (by simp [hp])
  have n0 : s1.heap.get? s1.heap.objs.size = none := Heap.get?_none_of_le (Nat.le_refl _)
  have n1 : s1.heap.get? (s1.heap.objs.size + 1) = none := Heap.get?_none_of_le (Nat.le_succ _)
  have off : ∀ p ∈ pin ++ Z1, p.1 ∉ [s1.heap.objs.size + 1, s1.heap.objs.size] := fun p hp q => by
    have r := hst1.pins p hp
    rcases List.mem_cons.mp q with q | q
    · rw [q, n1] at r; cases r
    · rw [List.mem_singleton.mp q, n0] at r; cases r
  rcases hd with rfl | rfl
  · cases r1 with
    | list hm hc hdt hi =>
      rename_i aa oo vv nn
      have hl : s1.heap.IsList _ _ := ⟨_, H1 _ hm, hc, _, hdt⟩
      have hlt : (aa : Nat) < s1.heap.objs.size := Heap.lt_size (H1 _ hm)
      have hna : ¬ (s1.heap.objs.size + 1 : Nat) = (aa : Nat) := Nat.ne_of_gt (Nat.lt_succ_of_lt hlt)
      refine call_enumerate_list hl fun h' hE hI hsz hk => ?_
      refine wpAny_pyIter_enum hE ?_
      obtain ⟨oi, hoi, _⟩ := id hI
      obtain ⟨oe, hoe⟩ : ∃ oe, h'.get? (s1.heap.objs.size + 1) = some oe := ⟨_, hE⟩
      have D := Draws.list (prog := C.prog) (w := C.w) (A := A.in1) hh s1.heap.objs.size aa (Nat.ne_of_lt hlt) vv.toArray
      simp only [List.size_toArray, List.getElem?_toArray] at D
      refine loop_core hF (Itr.enum D (Nat.succ_ne_self _) (by simpa using hna) (by simp) (fun b hb => ?_) hi) P (ws := [(s1.heap.objs.size + 1, oe), (s1.heap.objs.size, oi)]) (pin := pin) rfl
        (hst1.pinMany (s' := { s1 with heap := h' }) hk (fun p hp => ?_) (fun p hp => ?_)) off ⟨⟨_, hE⟩, hI, hl.at fun o e => hk _ o e⟩ turn' done
        fun o fl Z' s' q1 q2 q3 => hK o fl Z' s' q1 q2 (x1.fwd.trans (.trans (.at (tk := s1.toks)) q3))
      · rcases List.mem_cons.mp hb with rfl | hb
        · exact .inl rfl
        · rw [List.mem_singleton.mp hb]; exact .inr ⟨_, hm⟩
      · rcases List.mem_cons.mp hp with rfl | hp
        · exact n1
        · rw [List.mem_singleton.mp hp]; exact n0
      · rcases List.mem_cons.mp hp with rfl | hp
        · exact hoe
        · rw [List.mem_singleton.mp hp]; exact hoi
  · cases r1 with
    | tuple hm hc hdt hi =>
      rename_i aa oo vv nn
      have hl : s1.heap.IsTuple _ _ := ⟨_, H1 _ hm, hc, _, hdt⟩
      have hlt : (aa : Nat) < s1.heap.objs.size := Heap.lt_size (H1 _ hm)
      have hna : ¬ (s1.heap.objs.size + 1 : Nat) = (aa : Nat) := Nat.ne_of_gt (Nat.lt_succ_of_lt hlt)
      refine call_enumerate_tuple hl fun h' hE hI hsz hk => ?_
      refine wpAny_pyIter_enum hE ?_
      obtain ⟨oi, hoi, _⟩ := id hI
      obtain ⟨oe, hoe⟩ : ∃ oe, h'.get? (s1.heap.objs.size + 1) = some oe := ⟨_, hE⟩
      have D := draws_tuple (prog := C.prog) (w := C.w) (A := A.in1) hh s1.heap.objs.size aa (Nat.ne_of_lt hlt) vv.toArray
      simp only [List.size_toArray, List.getElem?_toArray] at D
      refine loop_core hF (Itr.enum D (Nat.succ_ne_self _) (by simpa using hna) (by simp) (fun b hb => ?_) hi) P (ws := [(s1.heap.objs.size + 1, oe), (s1.heap.objs.size, oi)]) (pin := pin) rfl
        (hst1.pinMany (s' := { s1 with heap := h' }) hk (fun p hp => ?_) (fun p hp => ?_)) off ⟨⟨_, hE⟩, hI, hl.at fun o e => hk _ o e⟩ turn' done
        fun o fl Z' s' q1 q2 q3 => hK o fl Z' s' q1 q2 (x1.fwd.trans (.trans (.at (tk := s1.toks)) q3))
      · rcases List.mem_cons.mp hb with rfl | hb
        · exact .inl rfl
        · rw [List.mem_singleton.mp hb]; exact .inr ⟨_, hm⟩
      · rcases List.mem_cons.mp hp with rfl | hp
        · exact n1
        · rw [List.mem_singleton.mp hp]; exact n0
      · rcases List.mem_cons.mp hp with rfl | hp
        · exact hoe
        · rw [List.mem_singleton.mp hp]; exact hoi
end
namespace V
section
variable {C : Cx} {A : Around} {F : Fx} {k : Nat} {ns gs : List Str} {ρ ρ' : List Slot}
theorem while_ (W : Wk C A F k ns gs) {test : PySem.Expr} {body : List PySem.Stmt} {pos : Pos} {Q : Out → Prop} (n : Nat) (P : Nat → List Slot) (h0 : Sub (P 0) ρ)
    (turn : ∀ k, k < n → EvB C A (FS F (P k)) F.env test true ∧ ExS C A F (P k) body (LoopQ (P (k + 1)) Q)) (last : EvB C A (FS F (P n)) F.env test false) (done : Q (.next (P n))) : Ex1 C A F ρ (.While test body [] pos) Q := Ex1.while_ W.hF n P h0 turn last done
theorem chain2 (W : Wk C A F k ns gs) {l m r : PySem.Expr} {op1 op2 : PySem.CmpOp} {pos : Pos} {d1 d2 d3 : PyData} {b1 b2 : Bool}
    (h1 : EvE C A (FS F ρ) F.env l d1) (h2 : EvE C A (FS F ρ) F.env m d2) (h3 : EvE C A (FS F ρ) F.env r d3) (hb1 : CmpR op1 d1 d2 b1) (hb2 : CmpR op2 d2 d3 b2)
    (hm : lastMarks [op1, op2] [m, r] = false := by with_unfolding_all rfl) : EvB C A (FS F ρ) F.env (.Compare l [op1, op2] [m, r] pos) (b1 && b2) := EvB.chain2 (ok W ρ) W.hu h1 h2 h3 hb1 hb2 hm
theorem forEnum (W : Wk C A F k ns gs) {elts : List PySem.Expr} {kk : Nat} {tp : Pos} {x : Str} {np cp pos : Pos} {e : PySem.Expr} {body : List PySem.Stmt} {d : PyData} {ds : List PyData} {Q : Out → Prop}
    (P : Nat → List Slot) (hx : x ∈ gs) (hb : Bi C x (.type "enumerate")) (h : EvE C A (FS F ρ) F.env e d) (hd : d = .list ds ∨ d = .tuple ds)
    (h0 : Sub (P 0) ρ) (turn : ∀ k x, ds[k]? = some x → ∃ ρ', Asg C A F (P k) (.Tuple elts kk tp) (.tuple [.int k, x]) ρ' ∧ ExS C A F ρ' body (LoopQ (P (k + 1)) Q)) (done : Q (.next (P ds.length)))
    (hs : ∀ y, foldedSetIterable (.Call (.Name x np) [e] [] cp) F.env y = pure y := by intro _; with_unfolding_all rfl)
    (he : starEach [e] F.env = (false, eval e F.env) :: starEach [] F.env := by with_unfolding_all rfl) (h9 : k ≤ 100 := by decide) : Ex1 C A F ρ (.For (.Tuple elts kk tp) (.Call (.Name x np) [e] [] cp) body [] pos) Q :=
  Ex1.forEnum W.hF (W.hh h9) (bi W hx hb) h hd P h0 turn done hs he
end
end V
end Mine

namespace Mine
open PySem PySem.W PySem.Spec PySem.Calls PyProof.Rows

/-! ## Comprehensions -/
/-- within a comprehension: the frame's state, and the turn's names -/
noncomputable def CS (F : Fx) (ρ : List Slot) (xs : List (Str × PyData)) (cenv : Env) (Z : Led) (s : Shared) : Prop := FS F ρ Z s ∧ ∃ m, s.heap.Ns cenv.locals m ∧ ∀ p ∈ xs, ∃ v, m p.1 = some v ∧ Rp Z v p.2

section
variable {C : Cx} {A : Around} {F : Fx} {ρ : List Slot} {pin Z : Led} {s : Shared}
theorem FxOK.okayC (hF : FxOK C A F) (ρ : List Slot) (xs : List (Str × PyData)) (cenv : Env) : Okay C A (CS F ρ xs cenv) where
  ext := fun ⟨h, m, h1, h2⟩ e => ⟨(hF.okay ρ).ext h e, m, h1.keeps e.keep, fun p hp => let ⟨v, q1, q2⟩ := h2 p hp; ⟨v, q1, q2.mono e.sub⟩⟩
  call := fun ⟨h, _⟩ => (hF.okay ρ).call h

theorem EvE.cvar {x : Str} {pos : Pos} {d : PyData} {xs : List (Str × PyData)} {cenv : Env} (hx : (x, d) ∈ xs) (hk : cenv.scope.kind = .function) (hl : cenv.kindOf x = some .local) (hd : (x == ("__debug__" : Str)) = false) : EvE C A (CS F ρ xs cenv) cenv (.Name x pos) d := fun Z s K E hs hK => by
  obtain ⟨_, m, h1, h2⟩ := hs
  obtain ⟨v, q1, q2⟩ := h2 _ hx
  exact wpAny_Name (wpAny_loadName_local hk hl h1 q1 (hK v Z s .refl q2)) hd

/-- a name of the def that the comprehension takes in -/
theorem EvE.capt {y : Str} {pos : Pos} {e : PyData} {i : Nat} {c : Addr} {xs : List (Str × PyData)} {cenv : Env} (hk : cenv.scope.kind = .function) (hl : cenv.kindOf y = some .cell) (hd : (y == ("__debug__" : Str)) = false) (hc : cenv.cells.lookup y = some c)
    (hc' : F.env.cells.lookup y = some c) (hkF : F.env.kindOf y = some .cell) (hv : Var F.ns ρ y i (.dat e)) : EvE C A (CS F ρ xs cenv) cenv (.Name y pos) e := fun Z s K E hs hK => by
  obtain ⟨⟨pin, m, muts, oa, h⟩, _⟩ := hs
  obtain ⟨v, h1, h2⟩ := h.slots i y _ hv.at.1 hv.at.2
  rcases h1 with ⟨h1, _⟩ | ⟨_, c', o, q1, q2, q3⟩
  · rw [hkF] at h1; cases h1
  · rw [hc'] at q1
    obtain rfl := Option.some.inj q1
    exact wpAny_Name (wpAny_loadName_cell hk hl hc ⟨o, (h.nw (c, o) (by simp [q2])).1, q3⟩ (hK v Z s .refl h2)) hd

/-- the tests of a comprehension -/
noncomputable def EvIfs (C : Cx) (A : Around) (St : Led → Shared → Prop) (env : Env) (ifs : List PySem.Expr) (b : Bool) : Prop :=
  ∀ Z s (K : Bool → Shared → Prop) (E : Value → Shared → Prop), St Z s → (∀ Z' s', Ext Z s Z' s' → K b s') →
    wpAny (model C.prog C.w) A (forIn ifs true fun c r => if r = true then do let ok ← isTrue c env (eval c env); pure (ForInStep.yield ok) else pure (ForInStep.yield r)) K E s
theorem EvIfs.nil {St : Led → Shared → Prop} {env : Env} : EvIfs C A St env [] true := fun Z s K E _ hK => wpAny_pure (hK Z s .refl)
theorem EvIfs.one {St : Led → Shared → Prop} {env : Env} {e : PySem.Expr} {b : Bool} (h : EvB C A St env e b) : EvIfs C A St env [e] b := fun Z s K E hs hK => wpAny_tests_one (h Z s _ E hs hK)

theorem FSt.pinsOf {pin' : Led} (h : FSt F ρ pin Z s) (hp : ∀ p ∈ pin', p ∈ pin) : FSt F ρ pin' Z s := by
  obtain ⟨m, muts, oa, h⟩ := h
  refine ⟨m, muts, oa, h.fr, fun p q => h.nw p ?_, fun p q r hr => h.d1 p q r ?_, fun p q r hr => h.d2 p (hp p q) r hr, h.slots, h.inj, h.cells⟩
  · rcases List.mem_append.mp q with q | q
    · exact List.mem_append_left _ (hp p q)
    · exact List.mem_append_right _ q
  · rcases List.mem_append.mp hr with q | q
    · exact List.mem_append_left _ (hp r q)
    · exact List.mem_append_right _ q

/-- what a comprehension runs over -/
noncomputable def ItrE (C : Cx) (A : Around) (F : Fx) (ρ : List Slot) (target iter : PySem.Expr) (n : Nat) (item : Nat → PyData) : Prop :=
  ∀ pin Z s (K : Value → Shared → Prop) (E : Value → Shared → Prop), FSt F ρ pin Z s →
    (∀ I wr fp ws StI Z' s', Ext Z s Z' s' → Itr C A target I wr fp n item StI Z' → ws.map (·.1) = wr → FSt F ρ (ws ++ pin) Z' s' → StI 0 s'.heap → (∀ b ∈ wr, s.heap.get? b = none) →
      (∀ (st : Shared) (Q : Value → Shared → Prop) (E' : Value → Shared → Prop), StI 0 st.heap → Q (.ref I) st → wpAny (model C.prog C.w) A (pyIter (.ref I)) Q E' st) → K (.ref I) s') →
    wpAny (model C.prog C.w) A (eval iter F.env) (fun xv s₁ => wpAny (model C.prog C.w) A (pyIter xv) K E s₁) E s

/-- how its target takes an item -/
noncomputable def CAsg (C : Cx) (A : Around) (target : PySem.Expr) (cenv : Env) (d : PyData) (xs : List (Str × PyData)) : Prop :=
  ∀ Z s v m (K : Unit → Shared → Prop) (E : Value → Shared → Prop), s.heap.Ns cenv.locals m → HasL s.heap Z → (∀ p ∈ Z, p.1 ≠ cenv.locals) → Rp Z v d →
    (∀ h' tk m', h'.Ns cenv.locals m' → (∀ p ∈ xs, ∃ v, m' p.1 = some v ∧ Rp Z v p.2) → (∀ b o, b ≠ cenv.locals → s.heap.get? b = some o → h'.get? b = some o) → K () { s with heap := h', toks := tk }) →
    wpAny (model C.prog C.w) A (assign target cenv v) K E s

theorem compLoop_any {R : Result → Shared → Prop} {elt target iter : PySem.Expr} {ifs : List PySem.Expr} {scope : Scope} {pos : Pos} {it acc : Value} {env : Env} {prog : Program} {w : World} (I : Nat → Shared → Prop)
    (turn : ∀ n s, I n s → wpAny (model prog w) A (pyNext it) (fun r s₁ => match r with
      | none => R (.ok .next) s₁
      | some v => wpAny (model prog w) A (letOwnedTupleGo target it v) (fun _ s₁ => wpAny (model prog w) A (assign target env v) (fun _ s₂ =>
          wpAny (model prog w) A (forIn ifs true fun c r => if r = true then do let ok ← isTrue c env (eval c env); pure (ForInStep.yield ok) else pure (ForInStep.yield r)) (fun ok s₃ =>
            if ok = true then wpAny (model prog w) A (eval elt env) (fun x s₄ =>
              wpAny (model prog w) A (call (.builtin "list.append") [acc, x]) (fun _ s₅ => ∃ m, m < n ∧ I m s₅) (notedBy (model prog w) A env fun e s' => R (.error e) s') s₄) (notedBy (model prog w) A env fun e s' => R (.error e) s') s₃
            else ∃ m, m < n ∧ I m s₃) (notedBy (model prog w) A env fun e s' => R (.error e) s') s₂) (notedBy (model prog w) A env fun e s' => R (.error e) s') s₁) (notedBy (model prog w) A env fun e s' => R (.error e) s') s₁) (notedBy (model prog w) A env fun e s' => R (.error e) s') s)
    (n : Nat) (h : I n s) :
    codeAny (model prog w) A (.compLoop (.ListComp elt [⟨target, iter, ifs, 0⟩] scope pos) 0 it acc env) R s := by
  refine codeAny_loop rfl I (fun n s hI => ?_) n h
  show wpAny _ A ((compTurn (.ListComp elt [⟨target, iter, ifs, 0⟩] scope pos) 0 it acc env).onRaise (fun x => do noteFrame x env; theTreesLotGoes x)) _ _ s
  refine wpAny_noted ?_
  rw [compTurn_list]
  refine wpAny_bind (wpAny_standAt (wpAny_bind (wpAny_mono (turn n s hI) (fun r s₁ h₁ => ?_) fun _ _ h' => h')))
  cases r with
  | none => exact wpAny_pure h₁
  | some v =>
    refine wpAny_bind (wpAny_mono h₁ (fun _ s₁ h₁ => ?_) fun _ _ h' => h')
    refine wpAny_bind (wpAny_mono h₁ (fun _ s₂ h₂ => wpAny_bind (wpAny_mono h₂ (fun ok s₃ h₃ => ?_) fun _ _ h' => h')) fun _ _ h' => h')
    cases ok with
    | false => exact wpAny_pure ⟨rfl, h₃⟩
    | true =>
      exact wpAny_bind (wpAny_bind (wpAny_mono h₃ (fun x s₄ h₄ => wpAny_bind (wpAny_mono h₄ (fun _ s₅ h₅ => wpAny_pure (wpAny_pure ⟨rfl, h₅⟩)) fun _ _ h' => h')) fun _ _ h' => h'))

theorem range_filter_succ {α : Type} {p : Nat → Bool} {g : Nat → α} (k : Nat) : ((List.range (k + 1)).filter p).map g = ((List.range k).filter p).map g ++ (if p k then [g k] else []) := by
  rw [List.range_succ, List.filter_append, List.map_append]
  congr 1
  cases h : p k <;> simp [h]

/-- the loop of a comprehension -/
theorem comp_loop (hF : FxOK C A F) {elt target iter : PySem.Expr} {ifs : List PySem.Expr} {scope : Scope} {pos : Pos} {cenv : Env} {D I : Addr} {wr fp : List Addr} {n : Nat} (hn : n ≤ 2 ^ 20) {item g : Nat → PyData} {tst : Nat → Bool} {xs : Nat → List (Str × PyData)}
    {StI : Nat → Heap → Prop} {Z₀ : Led} (W : Itr C A target I wr fp n item StI Z₀) {ws : Led} (hws : ws.map (·.1) = wr) {oD oC : Obj} {m : Str → Option Value}
    (hst : FSt F ρ (ws ++ ((D, oD) :: (cenv.locals, oC) :: pin)) Z₀ s) (hoff : ∀ p ∈ pin, p.1 ∉ D :: cenv.locals :: wr) (hDw : D ∉ wr) (hCw : cenv.locals ∉ wr) (hDC : D ≠ cenv.locals) (h0 : StI 0 s.heap)
    (hns : s.heap.Ns cenv.locals m) (hDl : oD.cls = .type "list" ∧ oD.data = .seq #[] 0)
    (hasg : ∀ k, k < n → CAsg C A target cenv (item k) (xs k)) (htst : ∀ k, k < n → EvIfs C A (CS F ρ (xs k) cenv) cenv ifs (tst k)) (helt : ∀ k, k < n → tst k = true → EvE C A (CS F ρ (xs k) cenv) cenv elt (g k))
    {R : Result → Shared → Prop}
    (hR : ∀ Z' s' o ys nn, (∃ h tk, s' = { s with heap := h, toks := tk }) → (∀ b o, b ∉ D :: cenv.locals :: wr → s.heap.get? b = some o → s'.heap.get? b = some o) → (∀ p ∈ Z₀, p ∈ Z') →
      (∀ p ∈ Z', p ∈ Z₀ ∨ (s.heap.get? p.1 = none ∧ s'.heap.get? p.1 = some p.2)) → (∃ m', s'.heap.Ns cenv.locals m') → s'.heap.get? D = some o → o.cls = .type "list" → o.data = .seq (List.toArray ys) nn → Rps Z' ys (((List.range n).filter tst).map g) →
      (∀ p ∈ Z', p.1 ≠ cenv.locals) → R (.ok .next) s') :
    codeAny (model C.prog C.w) A (.compLoop (.ListComp elt [⟨target, iter, ifs, 0⟩] scope pos) 0 (.ref I) (.ref D) cenv) R s := by
  refine compLoop_any (fun j s' => ∃ k ws' Z' oD' oC' ys nn, j = n + 1 - k ∧ k ≤ n ∧ ws'.map (·.1) = wr ∧ FSt F ρ (ws' ++ ((D, oD') :: (cenv.locals, oC') :: pin)) Z' s' ∧ StI k s'.heap ∧ (∃ h tk, s' = { s with heap := h, toks := tk }) ∧
    (∀ b o, b ∉ D :: cenv.locals :: wr → s.heap.get? b = some o → s'.heap.get? b = some o) ∧ (∀ p ∈ Z₀, p ∈ Z') ∧ (∀ p ∈ Z', p ∈ Z₀ ∨ s.heap.get? p.1 = none) ∧ (∃ m', s'.heap.Ns cenv.locals m') ∧
    oD'.cls = .type "list" ∧ oD'.data = .seq (List.toArray ys) nn ∧ Rps Z' ys (((List.range k).filter tst).map g)) ?_ (n + 1)
    ⟨0, ws, Z₀, oD, oC, [], 0, rfl, Nat.zero_le _, hws, hst, h0, ⟨_, _, rfl⟩, fun _ _ _ e => e, fun _ h => h, fun _ h => .inl h, ⟨m, hns⟩, hDl.1, hDl.2, .nil⟩
  rintro j s' ⟨k, ws', Z', oD', oC', ys, nn, rfl, hk, hws', hst', hI, ⟨hs', tks', rfl⟩, hkeep, hsub, hnew, ⟨m', hns'⟩, hc, hd, hys⟩
  have hpins := hst'.pins
  have liveS : ∀ {P : Led} {Z1 : Led} {s1 : Shared} {w1 : Led} {o1 o2 : Obj}, w1.map (·.1) = wr → FSt F ρ (w1 ++ ((D, o1) :: (cenv.locals, o2) :: pin)) Z1 s1 → ∀ b ∈ D :: cenv.locals :: wr, ∃ o, s1.heap.get? b = some o := by
    intro P Z1 s1 w1 o1 o2 hw hf b hb
    have hp := hf.pins
    rcases List.mem_cons.mp hb with rfl | hb
    · exact ⟨_, hp (_, o1) (by simp)⟩
    · rcases List.mem_cons.mp hb with rfl | hb
      · exact ⟨_, hp (_, o2) (by simp)⟩
      · rw [← hw] at hb
        obtain ⟨r, hr, rfl⟩ := List.mem_map.mp hb
        exact ⟨_, hp r (by simp [hr])⟩
  have offZ : ∀ {Z1 : Led} {s1 : Shared} {w1 : Led} {o1 o2 : Obj}, w1.map (·.1) = wr → FSt F ρ (w1 ++ ((D, o1) :: (cenv.locals, o2) :: pin)) Z1 s1 → ∀ p ∈ Z1, p.1 ∉ D :: cenv.locals :: wr := by
    rintro Z1 s1 w1 o1 o2 hw ⟨_, _, _, hf⟩ p hp hb
    rcases List.mem_cons.mp hb with e | hb
    · exact hf.d2 (D, o1) (by simp) p hp e.symm
    · rcases List.mem_cons.mp hb with e | hb
      · exact hf.d2 (cenv.locals, o2) (by simp) p hp e.symm
      · rw [← hw] at hb
        obtain ⟨r, hr, e⟩ := List.mem_map.mp hb
        exact hf.d2 r (by simp [hr]) p hp e
  have hlS := liveS (P := []) hws' hst'
  have H : HasL hs' Z' := fun p hp => hpins p (by simp [hp])
  by_cases hlt : k < n
  · refine wpAny_mono (W.next k Z' { s with heap := hs', toks := tks' } (fun v s₂ => ∃ Z₂ h' tk, s₂ = { s with heap := h', toks := tk } ∧ StI (k + 1) h' ∧ (∀ b o, b ∉ wr → hs'.get? b = some o → h'.get? b = some o) ∧ (∀ p ∈ Z', p ∈ Z₂) ∧ (∀ p ∈ Z₂, p ∈ Z' ∨ (hs'.get? p.1 = none ∧ h'.get? p.1 = some p.2)) ∧ Rp Z₂ v (item k))
      hlt hI H hsub (fun p hp q => offZ hws' hst' p hp (by simp [q])) fun v Z₂ h' tk a1 a2 a3 a4 a5 => ⟨Z₂, h', tk, rfl, a1, a2, a3, a4, a5⟩) (fun r s₁ hr => ?_) fun _ _ x => x.elim
    cases r with
    | none => exact hr.elim
    | some v =>
    refine wpAny_mono hr (fun _ s₂ h₂ => ?_) fun _ _ x => x.elim
    obtain ⟨Z₂, h₂, tk₂, rfl, a1, a2, a3, a4, a5⟩ := h₂
    obtain ⟨ws₂, e₂, hw₂⟩ := objs_at (W.live (k + 1) h₂ a1)
    have hst₂ : FSt F ρ (ws₂ ++ ((D, oD') :: (cenv.locals, oC') :: pin)) Z₂ { s with heap := h₂, toks := tk₂ } := hst'.moved (fun b o hb => a2 b o (hws' ▸ hb)) (fun p hp => ⟨hw₂ p hp, by rw [hws', ← e₂]; exact List.mem_map_of_mem hp⟩) (fun p hp => by
      rw [hws']
      rcases List.mem_append.mp hp with hp | hp
      · rcases List.mem_cons.mp hp with rfl | hp
        · exact hDw
        · rcases List.mem_cons.mp hp with rfl | hp
          · exact hCw
          · exact fun q => hoff p hp (by simp [q])
      · exact fun q => offZ hws' hst' p hp (by simp [q])) a3 a4
    have hk₂ : ∀ b o, b ∉ D :: cenv.locals :: wr → s.heap.get? b = some o → h₂.get? b = some o := fun b o hb e => a2 b o (fun q => hb (by simp [q])) (hkeep b o hb e)
    have hn₂ : ∀ p ∈ Z₂, p ∈ Z₀ ∨ s.heap.get? p.1 = none := fun p hp => by
      rcases a4 p hp with q | ⟨q, _⟩
      · exact hnew p q
      · refine .inr ?_
        cases e : s.heap.get? p.1 with
        | none => rfl
        | some o =>
          by_cases hb : p.1 ∈ D :: cenv.locals :: wr
          · obtain ⟨o', ho'⟩ := hlS _ hb
            simp only at ho'
            rw [q] at ho'; cases ho'
          · have := hkeep _ _ hb e
            simp only at this
            rw [q] at this; cases this
    have H₂ : HasL h₂ Z₂ := fun p hp => hst₂.pins p (by simp [hp])
    refine wpAny_mono (hasg k hlt Z₂ { s with heap := h₂, toks := tk₂ } v m' (fun _ s₃ => ∃ h' tk m₃, s₃ = { s with heap := h', toks := tk } ∧ h'.Ns cenv.locals m₃ ∧ (∀ p ∈ xs k, ∃ v, m₃ p.1 = some v ∧ Rp Z₂ v p.2) ∧ (∀ b o, b ≠ cenv.locals → h₂.get? b = some o → h'.get? b = some o))
      (fun _ _ => False) (hns'.at' fun o e => a2 _ o hCw e) H₂ (fun p hp q => offZ e₂ hst₂ p hp (by simp [q])) a5 fun h' tk m₃ b1 b2 b3 => ⟨h', tk, m₃, rfl, b1, b2, b3⟩) (fun _ s₃ h₃ => ?_) fun _ _ x => x.elim
    obtain ⟨h₃, tk₃, m₃, rfl, b1, b2, b3⟩ := h₃
    obtain ⟨oC₃, _, _, hoC₃, _⟩ := id b1
    have hst₃ : FSt F ρ (ws₂ ++ ((D, oD') :: (cenv.locals, oC₃) :: pin)) Z₂ { s with heap := h₃, toks := tk₃ } := by
      have q : FSt F ρ ([(cenv.locals, oC₃)] ++ (ws₂ ++ ((D, oD') :: pin))) Z₂ { s with heap := h₃, toks := tk₃ } := by
        refine FSt.moved (ws := [(cenv.locals, oC')]) (hst₂.pinsOf (fun p hp => ?_)) (fun b o hb => b3 b o (fun q => hb (by simp [q]))) (fun p hp => ?_) (fun p hp => ?_) (fun _ h => h) fun p hp => .inl hp
        · simp only [List.mem_append, List.mem_cons, List.not_mem_nil, or_false] at hp ⊢
          rcases hp with h | h | h | h
          · exact .inr (.inr (.inl h))
          · exact .inl h
          · exact .inr (.inl h)
          · exact .inr (.inr (.inr h))
        · rw [List.mem_singleton.mp hp]; exact ⟨hoC₃, by simp⟩
        · simp only [List.map_cons, List.map_nil, List.mem_singleton]
          rcases List.mem_append.mp hp with hp | hp
          · rcases List.mem_append.mp hp with hp | hp
            · intro e
              exact hCw (by rw [← e, ← e₂]; exact List.mem_map_of_mem hp)
            · rcases List.mem_cons.mp hp with rfl | hp
              · exact hDC
              · exact fun e => hoff p hp (by simp [e])
          · exact fun e => offZ e₂ hst₂ p hp (by simp [e])
      refine q.pinsOf fun p hp => ?_
      simp only [List.mem_append, List.mem_cons, List.not_mem_nil, or_false] at hp ⊢
      rcases hp with h | h | h | h
      · exact .inr (.inl h)
      · exact .inr (.inr (.inl h))
      · exact .inl h
      · exact .inr (.inr (.inr h))
    have hcs : CS F ρ (xs k) cenv Z₂ { s with heap := h₃, toks := tk₃ } := ⟨⟨_, hst₃⟩, m₃, b1, b2⟩
    have I₃ : StI (k + 1) h₃ := W.frame _ _ _ a1 fun b hb o e => by
      rcases W.foot b hb with q | ⟨ob, q⟩
      · exact b3 b o (fun e => hCw (e ▸ q)) e
      · exact b3 b o (fun e => offZ e₂ hst₂ _ (a3 _ (hsub _ q)) (by simp [e])) e
    have hk₃ : ∀ b o, b ∉ D :: cenv.locals :: wr → s.heap.get? b = some o → h₃.get? b = some o := fun b o hb e => b3 b o (fun q => hb (by simp [q])) (hk₂ b o hb e)
    have up : ∀ {Z4 : Led} {s4 : Shared}, Ext Z₂ { s with heap := h₃, toks := tk₃ } Z4 s4 → FSt F ρ (ws₂ ++ ((D, oD') :: (cenv.locals, oC₃) :: pin)) Z4 s4 ∧ StI (k + 1) s4.heap ∧ (∃ h tk, s4 = { s with heap := h, toks := tk }) ∧
        (∀ b o, b ∉ D :: cenv.locals :: wr → s.heap.get? b = some o → s4.heap.get? b = some o) ∧ (∀ p ∈ Z₀, p ∈ Z4) ∧ (∀ p ∈ Z4, p ∈ Z₀ ∨ s.heap.get? p.1 = none) ∧ (∃ m', s4.heap.Ns cenv.locals m') := by
      intro Z4 s4 x
      refine ⟨hst₃.ext x, W.frame _ _ _ I₃ fun b _ o e => x.keep b o e, ?_, fun b o hb e => x.keep b o (hk₃ b o hb e), fun p hp => x.sub p (a3 p (hsub p hp)), fun p hp => ?_, ⟨m₃, b1.keeps x.keep⟩⟩
      · obtain ⟨h4, t4, rfl⟩ := x.same; exact ⟨_, _, rfl⟩
      · rcases x.new p hp with q | ⟨q, _⟩
        · exact hn₂ p q
        · refine .inr ?_
          cases e : s.heap.get? p.1 with
          | none => rfl
          | some o =>
            by_cases hb : p.1 ∈ D :: cenv.locals :: wr
            · obtain ⟨o', ho'⟩ := liveS (P := []) e₂ hst₃ _ hb
              rw [q] at ho'; cases ho'
            · have := hk₃ _ _ hb e
              simp only at q
              rw [q] at this; cases this
    refine htst k hlt Z₂ _ _ _ hcs fun Z₄ s₄ x₄ => ?_
    cases ht : tst k with
    | false =>
      simp only [Bool.false_eq_true, if_false]
      obtain ⟨c1, c2, c3, c4, c5, c6, c7⟩ := up x₄
      refine ⟨n + 1 - (k + 1), by omega, k + 1, ws₂, Z₄, oD', oC₃, ys, nn, rfl, hlt, e₂, c1, c2, c3, c4, c5, c6, c7, hc, hd, ?_⟩
      rw [range_filter_succ, ht]
      simpa using hys.mono fun p hp => x₄.sub p (a3 p hp)
    | true =>
      simp only [if_true]
      have hcs₄ := (hF.okayC ρ (xs k) cenv).ext hcs x₄
      refine helt k hlt ht Z₄ s₄ _ _ hcs₄ fun y Z₅ s₅ x₅ r₅ => ?_
      obtain ⟨c1, c2, ⟨h₅, tk₅, rfl⟩, c4, c5, c6, ⟨m₅, c7⟩⟩ := up (x₄.trans x₅)
      have hl₅ : h₅.IsList D ys.toArray := ⟨oD', c1.pins (D, oD') (by simp), hc, nn, hd⟩
      have hlen : ys.length ≤ n := by
        rw [hys.length, List.length_map]
        exact Nat.le_trans (List.length_filter_le _ _) (by rw [List.length_range]; omega)
      refine wpAny_list_append (s := { s with heap := h₅, toks := tk₅ }) (hsz := by rw [List.size_toArray, sizeLine_eq]; omega) hl₅ fun h₆ hl₆ hs₆ => ?_
      obtain ⟨oD₆, hoD₆, hc₆, n₆, hd₆⟩ := hl₆
      have off5 := offZ e₂ c1
      have hst₆ : FSt F ρ (ws₂ ++ ((D, oD₆) :: (cenv.locals, oC₃) :: pin)) Z₅ { s with heap := h₆, toks := tk₅ } := by
        have q : FSt F ρ ([(D, oD₆)] ++ (ws₂ ++ ((cenv.locals, oC₃) :: pin))) Z₅ { s with heap := h₆, toks := tk₅ } := by
          refine FSt.moved (ws := [(D, oD')]) (c1.pinsOf (fun p hp => ?_)) (fun b o hb => hs₆.extBut b o (fun q => hb (by simp [q]))) (fun p hp => ?_) (fun p hp => ?_) (fun _ h => h) fun p hp => .inl hp
          · simp only [List.mem_append, List.mem_cons, List.not_mem_nil, or_false] at hp ⊢
            rcases hp with h | h | h | h
            · exact .inr (.inl h)
            · exact .inl h
            · exact .inr (.inr (.inl h))
            · exact .inr (.inr (.inr h))
          · rw [List.mem_singleton.mp hp]; exact ⟨hoD₆, by simp⟩
          · simp only [List.map_cons, List.map_nil, List.mem_singleton]
            rcases List.mem_append.mp hp with hp | hp
            · rcases List.mem_append.mp hp with hp | hp
              · intro e
                exact hDw (by rw [← e, ← e₂]; exact List.mem_map_of_mem hp)
              · rcases List.mem_cons.mp hp with rfl | hp
                · exact fun e => hDC e.symm
                · exact fun e => hoff p hp (by simp [e])
            · exact fun e => off5 p hp (by simp [e])
        refine q.pinsOf fun p hp => ?_
        simp only [List.mem_append, List.mem_cons, List.not_mem_nil, or_false] at hp ⊢
        rcases hp with h | h | h | h
        · exact .inr (.inl h)
        · exact .inl h
        · exact .inr (.inr (.inl h))
        · exact .inr (.inr (.inr h))
      refine ⟨n + 1 - (k + 1), by omega, k + 1, ws₂, Z₅, oD₆, oC₃, ys ++ [y], n₆, rfl, hlt, e₂, hst₆, W.frame _ _ _ c2 fun b hb o e => ?_, ⟨_, _, rfl⟩, fun b o hb e => hs₆.extBut b o (fun q => hb (by simp [q])) (c4 b o hb e), c5, c6, ⟨m₅, c7.sameBut hs₆ (Ne.symm hDC)⟩, hc₆, by simpa using hd₆, ?_⟩
      · rcases W.foot b hb with q | ⟨ob, q⟩
        · exact hs₆.extBut b o (fun e => hDw (e ▸ q)) e
        · exact hs₆.extBut b o (fun e => off5 _ (c5 _ q) (by simp [e])) e
      · rw [range_filter_succ, ht]
        simpa using (hys.mono fun p hp => x₅.sub p (x₄.sub p (a3 p hp))).append (.one r₅)
  · have hkn : k = n := by omega
    subst hkn
    refine wpAny_mono (W.done { s with heap := hs', toks := tks' } (fun r s₁ => r = none ∧ ∃ h' tk, s₁ = { s with heap := h', toks := tk } ∧ ∀ b o, b ∉ wr → hs'.get? b = some o → h'.get? b = some o) hI fun h' tk hk' => ⟨rfl, h', tk, rfl, hk'⟩) (fun r s₁ hr => ?_) fun _ _ x => x.elim
    obtain ⟨rfl, h', tk, rfl, hk'⟩ := hr
    have off := offZ hws' hst'
    refine hR Z' _ oD' ys nn ⟨_, _, rfl⟩ (fun b o hb e => hk' b o (fun q => hb (by simp [q])) (hkeep b o hb e)) hsub (fun p hp => ?_) ⟨m', hns'.at' fun o e => hk' _ o hCw e⟩ (hk' _ _ hDw (hpins (D, oD') (by simp))) hc hd hys fun p hp e => off p hp (by simp [e])
    rcases hnew p hp with q | q
    · exact .inl q
    · exact .inr ⟨q, hk' _ _ (fun e => off p hp (by simp [e])) (H p hp)⟩

theorem Ext.change {Z Z' : Led} {s s' : Shared} {Cc : Addr} {h'' : Heap} (x : Ext Z s Z' s') (hn : s.heap.get? Cc = none) (off : ∀ p ∈ Z', p.1 ≠ Cc) (hs : Heap.SameBut Cc s'.heap h'') : Ext Z s Z' { s' with heap := h'' } := by
  obtain ⟨h1, t1, e1⟩ := x.same
  refine ⟨⟨h'', t1, by rw [e1]⟩, fun b o e => hs.extBut b o (fun q => by rw [q, hn] at e; cases e) (x.keep b o e), x.sub, fun p hp => (x.new p hp).imp id fun q => ⟨q.1, hs.extBut _ _ (off p hp) q.2⟩⟩
theorem FIn.addPin {m : Str → Option Value} {muts : Led} {oa : Nat → Addr} {a : Addr} {o : Obj} (h : FIn F ρ pin Z s m muts oa) (ho : s.heap.get? a = some o) (hL : a ≠ F.L) (hn : F.h₀.get? a = none) (h1 : ∀ p ∈ muts, p.1 ≠ a) (h2 : ∀ p ∈ Z, p.1 ≠ a) : FIn F ρ ((a, o) :: pin) Z s m muts oa := by
  refine ⟨h.fr, fun p hp => ?_, fun p hp q hq => ?_, fun p hp q hq => ?_, h.slots, h.inj, h.cells⟩
  · rcases List.mem_cons.mp hp with rfl | hp
    · exact ⟨ho, hL, hn⟩
    · exact h.nw p hp
  · rcases List.mem_cons.mp hq with rfl | hq
    · exact h1 p hp
    · exact h.d1 p hp q hq
  · rcases List.mem_cons.mp hp with rfl | hp
    · exact (h2 q hq).symm
    · exact h.d2 p hp q hq

theorem comp_core (hF : FxOK C A F) {elt target iter : PySem.Expr} {ifs : List PySem.Expr} {scope : Scope} {cl : List (Str × Addr)} {pos : Pos} {n : Nat} (hn : n ≤ 2 ^ 20) {item g : Nat → PyData} {tst : Nat → Bool} {xs : Nat → List (Str × PyData)}
    (hclos : closureFor scope F.env = pure cl) (hcell : ∀ y ∈ scope.names, y.2 ≠ .cell) (hkind : scope.kind = .function) (hnames : ∀ y ∈ scope.names, y.2 = .local → scope.names.lookup y.1 = some .local)
    (hit : ItrE C A F ρ target iter n item) (hasg : ∀ Cc k, k < n → CAsg C A target (compEnvC scope cl Cc F.env) (item k) (xs k))
    (htst : ∀ Cc k, k < n → EvIfs C A (CS F ρ (xs k) (compEnvC scope cl Cc F.env)) (compEnvC scope cl Cc F.env) ifs (tst k))
    (helt : ∀ Cc k, k < n → tst k = true → EvE C A (CS F ρ (xs k) (compEnvC scope cl Cc F.env)) (compEnvC scope cl Cc F.env) elt (g k))
    (hs : ∀ x, foldedSetIterable iter F.env x = pure x) {use : Option (Value → Sem Unit)} {K : Value → Shared → Prop} {E : Value → Shared → Prop} (hst : FSt F ρ pin Z s)
    (hK : ∀ D Cc Z' s', Ext Z s Z' s' → Rp Z' (.ref D) (.list (((List.range n).filter tst).map g)) → s.heap.get? Cc = none → (∃ m', s'.heap.Ns Cc m') → (∀ p ∈ Z', p.1 ≠ Cc) → compPost (model C.prog C.w) A E use K (.ref D) Cc (.ok .next) s') :
    wpAny (model C.prog C.w) A (comprehension (.ListComp elt [⟨target, iter, ifs, 0⟩] scope pos) scope F.env (firstIterPos [⟨target, iter, ifs, 0⟩] pos) (newList []) false (eval iter F.env) use) K E s := by
  refine wpAny_comprehension_free (use := use) rfl hs hclos hkind hnames ?_
  refine hit pin Z s _ E hst fun I wr fp ws StI Z₂ s₂ x₂ W hws hst₂ hI hwr hself => ?_
  refine wpAny_newObj_type (wpAny_newFunctionEnv hcell (by intro y hy; simp at hy) (fun h₁ hns₁ hsb₁ => ?_) hkind)
  dsimp only at hns₁ hsb₁ ⊢
  generalize hH2 : s₂.heap.push { cls := .type "list", dict := none, data := .seq ([] : List Value).toArray } = H2 at hns₁ hsb₁ ⊢
  have hC : H2.objs.size = s₂.heap.objs.size + 1 := by rw [← hH2, Heap.size_push]
  have hDC : s₂.heap.objs.size ≠ H2.objs.size := by rw [hC]; exact Nat.ne_of_lt (Nat.lt_succ_self _)
  have below : ∀ b, b < s₂.heap.objs.size → b ≠ H2.objs.size ∧ b ≠ s₂.heap.objs.size := fun b hb => ⟨by rw [hC]; exact Nat.ne_of_lt (Nat.lt_succ_of_lt hb), Nat.ne_of_lt hb⟩
  have old : ∀ b o, s₂.heap.get? b = some o → h₁.get? b = some o := fun b o e => hsb₁.extBut b o (below b (Heap.lt_size e)).1 (Heap.get?_push_of_some _ (hH2 ▸ Heap.get?_push_of_some _ e))
  have hacc : h₁.get? s₂.heap.objs.size = some { cls := .type "list", dict := none, data := .seq ([] : List Value).toArray } := hsb₁.extBut _ _ hDC (Heap.get?_push_of_some _ (hH2 ▸ Heap.get?_push_size _ rfl))
  have hI₁ : StI 0 h₁ := W.frame _ _ _ hI fun b _ o e => old b o e
  have nD : s₂.heap.get? s₂.heap.objs.size = none := Heap.get?_none_of_le (Nat.le_refl _)
  have nC : s₂.heap.get? H2.objs.size = none := Heap.get?_none_of_le (by rw [hC]; exact Nat.le_succ _)
  obtain ⟨oC, _, _, hoC, _⟩ := id hns₁
  have p₂ := hst₂.pins
  have wrlt : ∀ b ∈ wr, b < s₂.heap.objs.size := fun b hb => by
    rw [← hws] at hb
    obtain ⟨r, hr, rfl⟩ := List.mem_map.mp hb
    exact Heap.lt_size (p₂ r (by simp [hr]))
  have hst₃ : FSt F ρ (ws ++ ((s₂.heap.objs.size, { cls := .type "list", dict := none, data := .seq ([] : List Value).toArray }) :: (H2.objs.size, oC) :: pin)) Z₂ { s₂ with heap := h₁, toks := s₂.toks + ([] : List (Str × Value)).length } := by
    have q := hst₂.pinMany (ws := [(s₂.heap.objs.size, { cls := .type "list", dict := none, data := .seq ([] : List Value).toArray }), (H2.objs.size, oC)]) (s' := { s₂ with heap := h₁, toks := s₂.toks + ([] : List (Str × Value)).length }) old (fun p hp => ?_) (fun p hp => ?_)
    · refine q.pinsOf fun p hp => ?_
      simp only [List.mem_append, List.mem_cons, List.not_mem_nil, or_false] at hp ⊢
      rcases hp with h | h | h | h
      · exact .inr (.inl h)
      · exact .inl (.inl h)
      · exact .inl (.inr h)
      · exact .inr (.inr h)
    · rcases List.mem_cons.mp hp with rfl | hp
      · exact nD
      · rw [List.mem_singleton.mp hp]; exact nC
    · rcases List.mem_cons.mp hp with rfl | hp
      · exact hacc
      · rw [List.mem_singleton.mp hp]; exact hoC
  have hps : ∀ p ∈ pin, s.heap.get? p.1 = some p.2 := fun p hp => hst.pins p (by simp [hp])
  have hoff : ∀ p ∈ pin, p.1 ∉ s₂.heap.objs.size :: H2.objs.size :: wr := fun p hp q => by
    have r := hps p hp
    have r2 := x₂.keep _ _ r
    rcases List.mem_cons.mp q with e | q
    · rw [e, nD] at r2; cases r2
    · rcases List.mem_cons.mp q with e | q
      · rw [e, nC] at r2; cases r2
      · rw [hwr _ q] at r; cases r
  have loop : codeAny (model C.prog C.w) A (.compLoop (.ListComp elt [⟨target, iter, ifs, 0⟩] scope pos) 0 (.ref I) (.ref s₂.heap.objs.size) (compEnvC scope cl H2.objs.size F.env))
        (compPost (model C.prog C.w) A E use K (.ref s₂.heap.objs.size) H2.objs.size) { s₂ with heap := h₁, toks := s₂.toks + ([] : List (Str × Value)).length } := by
    refine comp_loop (ρ := ρ) (pin := pin) hF (cenv := compEnvC scope cl H2.objs.size F.env) hn W hws hst₃ hoff (fun q => Nat.lt_irrefl _ (wrlt _ q)) (fun q => by have := wrlt _ q; simp only [compEnvC, hC] at this; exact Nat.lt_irrefl _ (Nat.lt_of_succ_lt this)) hDC hI₁ hns₁ ⟨rfl, rfl⟩
      (fun k hk => hasg _ k hk) (fun k hk => htst _ k hk) (fun k hk ht => helt _ k hk ht) fun Z' s' o ys nn q1 q2 q3 q4 q5 q6 q7 q8 q9 q10 => ?_
    obtain ⟨h', tk', rfl⟩ := q1
    have kk : ∀ b o, s.heap.get? b = some o → h'.get? b = some o := fun b o e => by
      have r := x₂.keep b o e
      have hne : b ∉ s₂.heap.objs.size :: H2.objs.size :: wr := fun q => by
        rcases List.mem_cons.mp q with e | q
        · rw [e, nD] at r; cases r
        · rcases List.mem_cons.mp q with e' | q
          · rw [e', nC] at r; cases r
          · rw [hwr _ q] at e; cases e
      exact q2 b o hne (old b o r)
    refine hK _ _ ((s₂.heap.objs.size, o) :: Z') _ ⟨?_, kk, fun p hp => .tail _ (q3 p (x₂.sub p hp)), fun p hp => ?_⟩ (.list (.head _) q7 q8 (q9.mono fun _ h => .tail _ h)) (none_of_keep x₂.keep nC) q5 fun p hp => ?_
    · obtain ⟨h2, t2, rfl⟩ := x₂.same; exact ⟨_, _, rfl⟩
    · rcases List.mem_cons.mp hp with rfl | hp
      · exact .inr ⟨none_of_keep x₂.keep nD, q6⟩
      · have hne := q10 p hp
        rcases q4 p hp with q | ⟨qa, qb⟩
        · rcases x₂.new p q with r | ⟨r1, r2⟩
          · exact .inl r
          · refine .inr ⟨r1, q2 _ _ (fun q => ?_) (old _ _ r2)⟩
            obtain ⟨_, _, _, hf⟩ := hst₃
            rcases List.mem_cons.mp q with e | q
            · exact hf.d2 (s₂.heap.objs.size, { cls := .type "list", dict := none, data := .seq ([] : List Value).toArray }) (by simp) p ‹_› e.symm
            · rcases List.mem_cons.mp q with e | q
              · exact hne e
              · rw [← hws] at q
                obtain ⟨r, hr, e⟩ := List.mem_map.mp q
                exact hf.d2 r (by simp [hr]) p ‹_› e
        · exact .inr ⟨none_of_keep x₂.keep (none_of_keep old qa), qb⟩
    · rcases List.mem_cons.mp hp with rfl | hp
      · exact hDC
      · exact q10 p hp
  exact codeAny_compStart_list loop (hself _ _ _ hI₁ loop)

theorem EvE.comp (hF : FxOK C A F) {elt target iter : PySem.Expr} {ifs : List PySem.Expr} {scope : Scope} {cl : List (Str × Addr)} {pos : Pos} {n : Nat} (hn : n ≤ 2 ^ 20) {item g : Nat → PyData} {tst : Nat → Bool} {xs : Nat → List (Str × PyData)}
    (hclos : closureFor scope F.env = pure cl) (hcell : ∀ y ∈ scope.names, y.2 ≠ .cell) (hkind : scope.kind = .function) (hnames : ∀ y ∈ scope.names, y.2 = .local → scope.names.lookup y.1 = some .local)
    (hit : ItrE C A F ρ target iter n item) (hasg : ∀ Cc k, k < n → CAsg C A target (compEnvC scope cl Cc F.env) (item k) (xs k))
    (htst : ∀ Cc k, k < n → EvIfs C A (CS F ρ (xs k) (compEnvC scope cl Cc F.env)) (compEnvC scope cl Cc F.env) ifs (tst k))
    (helt : ∀ Cc k, k < n → tst k = true → EvE C A (CS F ρ (xs k) (compEnvC scope cl Cc F.env)) (compEnvC scope cl Cc F.env) elt (g k))
    (hs : ∀ x, foldedSetIterable iter F.env x = pure x := by intro _; with_unfolding_all rfl) :
    EvE C A (FS F ρ) F.env (.ListComp elt [⟨target, iter, ifs, 0⟩] scope pos) (.list (((List.range n).filter tst).map g)) := fun Z s K E hst hK => by
  obtain ⟨pin, hst⟩ := hst
  rw [eval_ListComp]
  refine comp_core hF hn hclos hcell hkind hnames hit hasg htst helt hs (use := none) hst fun D Cc Z' s' x r hC hm off => ?_
  obtain ⟨m', hm⟩ := hm
  exact ⟨m', hm, fun h'' hs'' => hK _ Z' _ (x.change hC off hs'') r⟩
/-- a comprehension whose list goes straight into a name -/
theorem Ex1.assignComp (hF : FxOK C A F) {y : Str} {py spos : Pos} {elt target iter : PySem.Expr} {ifs : List PySem.Expr} {scope : Scope} {cl : List (Str × Addr)} {pos : Pos} {n : Nat} (hn : n ≤ 2 ^ 20) {item g : Nat → PyData} {tst : Nat → Bool} {xs : Nat → List (Str × PyData)}
    (hclos : closureFor scope F.env = pure cl) (hcell : ∀ y ∈ scope.names, y.2 ≠ .cell) (hkind : scope.kind = .function) (hnames : ∀ y ∈ scope.names, y.2 = .local → scope.names.lookup y.1 = some .local)
    (hit : ItrE C A F ρ target iter n item) (hasg : ∀ Cc k, k < n → CAsg C A target (compEnvC scope cl Cc F.env) (item k) (xs k))
    (htst : ∀ Cc k, k < n → EvIfs C A (CS F ρ (xs k) (compEnvC scope cl Cc F.env)) (compEnvC scope cl Cc F.env) ifs (tst k))
    (helt : ∀ Cc k, k < n → tst k = true → EvE C A (CS F ρ (xs k) (compEnvC scope cl Cc F.env)) (compEnvC scope cl Cc F.env) elt (g k)) {ρ' : List Slot} {i : Nat} {Q : Out → Prop}
    (hu : Upd F.ns ρ y (.dat (.list (((List.range n).filter tst).map g))) i ρ') (hq : Q (.next ρ'))
    (hs : ∀ x, foldedSetIterable iter F.env x = pure x) (hsw : swapsWith (.ListComp elt [⟨target, iter, ifs, 0⟩] scope pos) (some (.Name y py)) spos.line F.env = pure true) :
    Ex1 C A F ρ (.Assign [.Name y py] (.ListComp elt [⟨target, iter, ifs, 0⟩] scope pos) spos) Q := fun pin Z s K hst hK => by
  rw [exec_Assign_Name_used _ _ _ _ hsw]
  refine wpAny_bind (wpAny_standAt (wpAny_bind ?_))
  show wpAny _ A (do let _ ← comprehension (.ListComp elt [⟨target, iter, ifs, 0⟩] scope pos) scope F.env _ (newList []) false (eval iter F.env) (some (PySem.assign (PySem.Expr.Name y py) F.env))) _ _ s
  refine wpAny_bind (wpAny_mono (comp_core hF hn hclos hcell hkind hnames hit hasg htst helt hs (use := some (PySem.assign (PySem.Expr.Name y py) F.env)) (K := fun _ s' => K .next s') hst fun D Cc Z' s' x r hC hm off => ?_) (fun _ s' hq => wpAny_pure (wpAny_pure hq)) fun _ _ e => e)
  show wpAny _ A (PySem.assign (PySem.Expr.Name y py) F.env (.ref D)) _ _ _
  obtain ⟨m', oC, es, ep, hoC, hoC'⟩ := hm
  obtain ⟨m, muts, oa, h⟩ := hst
  have hI := h.ext x
  have hp : FSt F ρ ((Cc, oC) :: pin) Z' s' := ⟨m, muts, oa, hI.addPin hoC (fun q => by
      obtain ⟨oL, _, _, hL, _⟩ := h.fr.ns
      rw [q, hL] at hC; cases hC) (none_of_keep h.fr.keep hC) (fun p hp q => by
      have := (h.nw p (by simp [hp])).1
      rw [q, hC] at this; cases this) off⟩
  refine wpAny_assign_Name (store_dat hF hp hu r fun s₂ h₂ w₂ => ?_)
  obtain ⟨m₂, muts₂, oa₂, h₂⟩ := h₂
  have c₂ : s₂.heap.get? Cc = some oC := (h₂.nw (Cc, oC) (by simp)).1
  refine ⟨m', ⟨oC, es, ep, c₂, hoC'⟩, fun h'' hs'' => hK _ _ Z' _ hq ⟨rfl, ?_⟩ (x.fwd.trans (w₂.trans (.at (tk := s₂.toks))))⟩
  have q : FSt F ρ' ([(Cc, oC)] ++ pin) Z' s₂ := ⟨m₂, muts₂, oa₂, h₂⟩
  have := q.moved (ws' := []) (s' := { s₂ with heap := h'' }) (fun b o hb e => hs''.extBut b o (by simpa using hb) e) (fun p hp => nomatch hp) (fun p hp => ?_) (fun _ h => h) fun p hp => .inl hp
  · simpa using this
  · intro q
    have e : p.1 = Cc := by simpa using q
    rcases List.mem_append.mp hp with hp | hp
    · have := (h.nw p (by simp [hp])).1
      rw [e, hC] at this; cases this
    · exact off p hp e
end
end Mine

namespace Mine
open PySem PySem.W PySem.Spec PySem.Calls PyProof.Rows

/-! ## Defs with one name that a comprehension takes in -/
theorem bindL_other {kd : Str → Option NameKind} : ∀ {l : List (Str × Value)} {m : Str → Option Value} {x : Str}, x ∉ l.map (·.1) → bindL kd l m x = m x
  | [], _, _, _ => rfl
  | (n, v) :: r, m, x, h => by
    have h1 : x ≠ n := fun e => h (by simp [e])
    have h2 : x ∉ r.map (·.1) := fun e => h (by simp at e ⊢; exact .inr e)
    rw [bindL, bindL_other h2]
    split
    · simp [h1]
    · rfl
theorem bindC_other {kd : Str → Option NameKind} : ∀ {l : List (Str × Value)} {m : Str → Option Value} {x : Str}, x ∉ l.map (·.1) → bindC kd l m x = m x
  | [], _, _, _ => rfl
  | (n, v) :: r, m, x, h => by
    have h1 : x ≠ n := fun e => h (by simp [e])
    have h2 : x ∉ r.map (·.1) := fun e => h (by simp at e ⊢; exact .inr e)
    rw [bindC, bindC_other h2]
    split
    · rfl
    · simp [h1]
theorem bindL_at {kd : Str → Option NameKind} : ∀ {l : List (Str × Value)} {m : Str → Option Value} {x : Str} {v : Value}, (l.map (·.1)).Nodup → (x, v) ∈ l → kd x = some .local → bindL kd l m x = some v
  | (n, w) :: r, m, x, v, nd, hm, hk => by
    rw [List.map_cons, List.nodup_cons] at nd
    rw [bindL]
    rcases List.mem_cons.mp hm with e | hm
    · cases e
      rw [bindL_other nd.1, if_pos hk]; simp
    · exact bindL_at nd.2 hm hk
theorem bindC_at {kd : Str → Option NameKind} : ∀ {l : List (Str × Value)} {m : Str → Option Value} {x : Str} {v : Value}, (l.map (·.1)).Nodup → (x, v) ∈ l → kd x = some .cell → bindC kd l m x = some v
  | (n, w) :: r, m, x, v, nd, hm, hk => by
    rw [List.map_cons, List.nodup_cons] at nd
    rw [bindC]
    rcases List.mem_cons.mp hm with e | hm
    · cases e
      rw [bindC_other nd.1, if_neg (by rw [hk]; decide)]; simp
    · exact bindC_at nd.2 hm hk
theorem mem_zip {ps : List Str} {vs : List Value} {i : Nat} {x : Str} {v : Value} (hx : ps[i]? = some x) (hv : vs[i]? = some v) : (x, v) ∈ ps.zip vs := by
  refine List.mem_of_getElem? (i := i) ?_
  rw [List.getElem?_zip_eq_some]; exact ⟨hx, hv⟩

structure ScopeC (scope : Scope) (ns : List Str) (y : Str) : Prop where
  nd : ns.Nodup
  kinds : ∀ x ∈ ns, (x == ("__debug__" : Str)) = false ∧ scope.names.lookup x = some (if x = y then .cell else .local)
  cells : ∀ n, cellsFrom n scope.names [] = [(y, n)]
  mem : y ∈ ns
  co : scope.isCoroutine = false
  gen : scope.isGenerator = false
  kind : scope.kind = .function

section
variable {C : Cx} {f : Addr} {params : Arguments} {body : List PySem.Stmt} {scope : Scope}

theorem frame_cell {A₀ : Around} {base g h₁ : Heap} {outer : List Env} {s : Shared} {tk : Nat} {L' : Addr} {qual : Str} {cdv : Value} {ns : List Str} {y : Str} (hS : ScopeC scope ns y) (ps more : List Str) (hns : ns = ps ++ more) {vs : List Value} {ds : List PyData} (hlen : ps.length = ds.length) {Z : Led}
    (hr : Rps Z vs ds) (F' : Fr g L' h₁ (bindL (envOfC qual scope L' f cdv).kindOf (ps.zip vs) fun _ => none)) {c : Obj} (hc : c.data = .cell (bindC (envOfC qual scope L' f cdv).kindOf (ps.zip vs) (fun _ => none) y))
    (N' : News g L' h₁ ((L' + 1, c) :: Z)) (hcz : ∀ p ∈ Z, p.1 ≠ L' + 1) :
    FSt { A₀ := A₀, base := base, outer := outer, h₀ := g, L := L', env := envOfC qual scope L' f cdv, ns := ns } (ds.map .dat ++ more.map fun _ => .undef) [] Z { s with heap := h₁, toks := tk } := by
  have hnd : ((ps.zip vs).map (·.1)).Nodup := by
    have : ps.Nodup := by have := hS.nd; rw [hns] at this; exact (List.nodup_append.mp this).1
    exact this.sublist (zip_sub ps vs)
  have hce : (envOfC qual scope L' f cdv).cells = [(y, L' + 1)] := hS.cells _
  refine ⟨_, [(L' + 1, c)], fun _ => 0, F', by simpa using N', (fun p hp q hq => ?_), (fun p hp => nomatch hp), fun i x sl hi hs => ?_, fun i j x y ds' es _ _ hi => ?_, fun x c' hx => ?_⟩
  · rw [List.mem_singleton.mp hp]
    simp only [List.nil_append] at hq
    exact fun e => hcz q hq e.symm
  · cases sl with
    | undef => trivial
    | own ds' =>
      rcases Nat.lt_or_ge i ds.length with q | q
      · rw [List.getElem?_append_left (by simpa using q)] at hs
        simp at hs
      · rw [List.getElem?_append_right (by simpa using q)] at hs
        simp at hs
    | dat d' =>
      rcases Nat.lt_or_ge i ds.length with q | q
      · rw [List.getElem?_append_left (by simpa using q)] at hs
        rw [List.getElem?_map] at hs
        obtain ⟨d'', e1, e2⟩ := Option.map_eq_some_iff.mp hs
        cases e2
        obtain ⟨v, hv, rv⟩ := hr.get e1
        simp only at hi
        have hi' : ps[i]? = some x := by
          rw [hns, List.getElem?_append_left (by omega)] at hi; exact hi
        have hm := mem_zip hi' hv
        have hx : x ∈ ns := by rw [hns]; exact List.mem_append_left _ (List.mem_of_getElem? hi')
        have hk := (hS.kinds x hx).2
        by_cases hxy : x = y
        · subst hxy
          rw [if_pos rfl] at hk
          refine ⟨v, .inr ⟨hk, L' + 1, c, by simp only [hce]; simp, .head _, ?_⟩, rv⟩
          rw [hc, bindC_at hnd hm hk]
        · rw [if_neg hxy] at hk
          exact ⟨v, .inl ⟨hk, bindL_at hnd hm hk⟩, rv⟩
      · rw [List.getElem?_append_right (by simpa using q)] at hs
        simp at hs
  · rcases Nat.lt_or_ge i ds.length with q | q
    · rw [List.getElem?_append_left (by simpa using q)] at hi
      simp at hi
    · rw [List.getElem?_append_right (by simpa using q)] at hi
      simp at hi
  · simp only [hce] at hx
    have : c' = L' + 1 := by
      rw [List.lookup_cons] at hx
      split at hx
      · exact (Option.some.inj hx).symm
      · cases hx
    rw [this]
    exact ⟨c, _, .head _, hc⟩

theorem Entry.cellD (D : DefAt C f params body scope) (more : List Str) {y : Str} {ds : List PyData} {k : Nat} (hps : params.args.length = ds.length) (hS : ScopeC scope (params.args.map (·.arg) ++ more) y) :
    Entry C f ds body (params.args.map (·.arg) ++ more) scope (ds.map .dat ++ more.map fun _ => .undef) k := by
  intro A Z s vs R hg hroom hr hb
  obtain ⟨A₀, base, outer, h₀, L, m, env, G⟩ := hg
  obtain ⟨name, qual, dV, kV, doc, pm, an, cdv, ct, oc, od, osl, hl, hcd, hbind⟩ := D.at_
  have N : News h₀ L s.heap Z := by simpa using G.N
  have lvs := hr.length
  have hfo := G.F.keep _ _ (G.X _ _ hl)
  have room1 : A.depth + (k + 1) ≤ 950 := hroom.depth
  have room2 : A.units + 8 * (k + 1) ≤ 4000 := hroom.units
  have hbinds := hbind vs (by rw [lvs, hps])
  obtain ⟨FG, B', st, _⟩ := groundX (R := R) G.B G.F N G.hA G.hf G.hk
  refine codeAny_call_function (o := ⟨oc, od, .func (fnOf name qual params body scope dV kV doc pm an cdv ct), osl⟩) (fd := fnOf name qual params body scope dV kV doc pm an cdv ct) (body := body)
    (by have : recursionLimit = 1000 := rfl; omega) hfo rfl hS.co hS.gen rfl (codeRec_of (G.X.keeps G.F.keep) hcd) ?_
  rw [hbinds]
  refine wpAny_pure ?_
  refine wpAny_newFunctionEnv_cells hS.kind (fun q hq => ?_) fun env' he s₁ x => ?_
  · have hm : q.1 ∈ params.args.map (·.arg) := (List.of_mem_zip (show (q.1, q.2) ∈ _ from hq)).1
    have hk := (hS.kinds q.1 (List.mem_append_left _ hm)).2
    by_cases e : q.1 = y
    · rw [if_pos e] at hk
      exact .inr ⟨hk, by rw [hS.cells, e]; simp⟩
    · rw [if_neg e] at hk; exact .inl hk
  subst he
  refine ⟨(G.T.nolimit.keeps G.F.keep).keeps x.toInCall.keep, codeAny_func ?_⟩
  obtain ⟨h₁, tk, rfl, _⟩ := x.done
  have hk₁ : ∀ b o, s.heap.get? b = some o → h₁.get? b = some o := x.toInCall.keep
  obtain ⟨⟨c, hoc, hdc⟩, hab⟩ : h₁.IsCell (s.heap.objs.size + 1) (bindC (envOfC qual scope s.heap.objs.size f cdv).kindOf ((params.args.map (·.arg)).zip vs) (fun _ => none) y) ∧ True := ⟨x.cell y _ (by show (cellsFrom (s.heap.objs.size + 1) scope.names []).lookup y = _; rw [hS.cells]; simp), trivial⟩
  have hns : h₁.Ns s.heap.objs.size (bindL (envOfC qual scope s.heap.objs.size f cdv).kindOf ((params.args.map (·.arg)).zip vs) fun _ => none) := x.toInCall.ns
  generalize hgd : hideAll s.heap (Z.map (·.1)) = g at FG B' st
  have F' : Fr g s.heap.objs.size h₁ (bindL (envOfC qual scope s.heap.objs.size f cdv).kindOf ((params.args.map (·.arg)).zip vs) fun _ => none) := ⟨hns, fun b o e => hk₁ b o (of_hideAll _ (hgd ▸ e)), by rw [← hgd]; exact Nat.le_of_eq (hideAll_size _ _)⟩
  have hcn : s.heap.get? (s.heap.objs.size + 1) = none := Heap.get?_none_of_le (Nat.le_succ _)
  have N' : News g s.heap.objs.size h₁ ((s.heap.objs.size + 1, c) :: Z) := fun p hp => by
    rcases List.mem_cons.mp hp with rfl | hp
    · exact ⟨hoc, Nat.succ_ne_self _, by
        cases q : g.get? (s.heap.objs.size + 1) with
        | none => rfl
        | some o => have := of_hideAll _ (hgd ▸ q); rw [hcn] at this; cases this⟩
    · exact ⟨hk₁ _ _ (N p hp).1, Nat.ne_of_lt (Heap.lt_size (N p hp).1), by rw [← hgd]; exact hideAll_none _ (List.mem_map_of_mem hp)⟩
  have hcz : ∀ p ∈ Z, p.1 ≠ s.heap.objs.size + 1 := fun p hp e => by have := (N p hp).1; rw [e, hcn] at this; cases this
  show wpAny _ (A.deeper (envOfC qual scope s.heap.objs.size f cdv)) (execs body (envOfC qual scope s.heap.objs.size f cdv)) _ _ _
  generalize hL' : s.heap.objs.size = L' at *
  let F : Fx := { A₀ := A, base := base, outer := env :: outer, h₀ := g, L := L', env := envOfC qual scope L' f cdv, ns := params.args.map (·.arg) ++ more }
  have hce : F.env.cells = [(y, L' + 1)] := hS.cells _
  have hF : FxOK C (A.deeper (envOfC qual scope L' f cdv)) F :=
    { B := B', XB := G.XB, TB := G.TB, hA := Around.frames_deeper G.hA, hf := rfl, hl := rfl, hk := hS.kind, hg := rfl, hb := rfl, nd := hS.nd,
      kinds := fun x hx => ⟨(hS.kinds x hx).1, by
        have hk := (hS.kinds x hx).2
        by_cases e : x = y
        · rw [if_pos e] at hk; exact .inr ⟨hk, L' + 1, by rw [hce, e]; simp⟩
        · rw [if_neg e] at hk; exact .inl hk⟩,
      cinj := fun x z c hx hz => by
        rw [hce, List.lookup_cons] at hx hz
        split at hx
        · rename_i e1
          split at hz
          · rename_i e2
            rw [beq_iff_eq] at e1 e2; rw [e1, e2]
          · cases hz
        · cases hx }
  have hst : FSt F (ds.map .dat ++ more.map fun _ => .undef) [] Z { s with heap := h₁, toks := tk } := frame_cell hS _ more rfl (by simpa using hps) hr F' hdc N' hcz
  have hroom' : Room (A.deeper (envOfC qual scope L' f cdv)) k := ⟨by show A.depth + 1 + k ≤ 950; omega, by show A.units + 3 + 8 * k ≤ 4000; omega⟩
  have hu : (A.deeper (envOfC qual scope L' f cdv)).units + 200 < cLine := by show A.units + 3 + 200 < 9900; omega
  exact hb F _ hF rfl rfl hroom' hu ⟨G.hA, hgd.symm, ⟨_, _, rfl⟩, fun p hp => (N p hp).1, by show s.heap.get? L' = none; rw [← hL']; exact fresh_get _⟩ hst

noncomputable def scopeCB (scope : Scope) (ns gs : List Str) (y : Str) : Bool :=
  decide ns.Nodup && ns.all (fun x => !(x == ("__debug__" : Str)) && scope.names.lookup x == some (if x == y then .cell else .local)) && gs.all (fun x => !(x == ("__debug__" : Str)) && scope.names.lookup x == some .globalImplicit) &&
  ns.contains y && !scope.isCoroutine && !scope.isGenerator && scope.kind == .function
theorem scopeCB_ok {ns gs : List Str} {y : Str} (h : scopeCB scope ns gs y = true) (hc : ∀ n, cellsFrom n scope.names [] = [(y, n)]) : ScopeC scope ns y ∧ ∀ x ∈ gs, (x == ("__debug__" : Str)) = false ∧ scope.names.lookup x = some .globalImplicit := by
  unfold scopeCB at h
  simp only [Bool.and_eq_true, decide_eq_true_eq, List.all_eq_true, Bool.not_eq_true', beq_iff_eq, bne_iff_ne, List.contains_eq_mem] at h
  obtain ⟨⟨⟨⟨⟨⟨h1, h2⟩, h3⟩, h4⟩, h5⟩, h6⟩, h7⟩ := h
  exact ⟨⟨h1, h2, hc, h4, h5, h6, h7⟩, h3⟩

/-- what the walk of a def with a cell leans on, beyond Wk -/
structure Ck (F : Fx) (y : Str) : Prop where
  kind : F.env.kindOf y = some .cell
  cell : ∃ c, F.env.cells.lookup y = some c
  loc : ∀ x ∈ F.ns, x ≠ y → F.env.kindOf x = some .local

theorem FnOK.ofC {k : Nat} {d : PyData} (st : PySem.Stmt) (y : Str) (ns gs : List Str) (ds : List PyData) (more : List Str) (D : DefAt C f (fdParams st) (fdBody st) (fdScope st))
    (hps : (fdParams st).args.map (·.arg) ++ more = ns) (hlen : (fdParams st).args.length = ds.length) (hS : scopeCB (fdScope st) ns gs y = true) (hc : ∀ n, cellsFrom n (fdScope st).names [] = [(y, n)])
    (hb : ∀ A F, Wk C A F k ns gs → Ck F y → ExS C A F (ds.map .dat ++ more.map fun _ => .undef) (fdBody st) (RetQ d)) : FnOK C f (k + 1) ds d := by
  subst hps
  obtain ⟨S, h3⟩ := scopeCB_ok hS hc
  refine FnOK.enters (Entry.cellD D more hlen S) fun A F hF hn hs hr hh hu => hb A F ⟨hF, hn, fun x hx => ⟨by show F.env.scope.names.lookup x = _; rw [hs]; exact (h3 x hx).2, (h3 x hx).1⟩, hr.le (Nat.mod_le _ _), fun _ => hh, hu⟩ ?_
  have hk : F.env.kindOf y = some .cell := by show F.env.scope.names.lookup y = _; rw [hs, (S.kinds y S.mem).2, if_pos rfl]
  refine ⟨hk, ?_, fun x hx hne => by show F.env.scope.names.lookup x = _; rw [hs, (S.kinds x (hn ▸ hx)).2, if_neg hne]⟩
  rcases (hF.kinds y (by rw [hn]; exact S.mem)).2 with q | q
  · rw [hk] at q; cases q
  · exact q.2
end
end Mine

namespace Mine
open PySem PySem.W PySem.Spec PySem.Calls PyProof.Rows

theorem clos_go {env : Env} {c : Addr} {y : Str} (hc : env.cells.lookup y = some c) : ∀ {names : List (Str × NameKind)} {acc : List (Str × Addr)},
    (names.filter (·.2 == .free) = [] → forIn (m := Sem) names acc (fun (x : Str × NameKind) cs => if x.2 == .free then do let a ← cellOf env x.1; pure (.yield ((x.1, a) :: cs)) else pure (.yield cs)) = pure acc) ∧
    (names.filter (·.2 == .free) = [(y, .free)] → forIn (m := Sem) names acc (fun (x : Str × NameKind) cs => if x.2 == .free then do let a ← cellOf env x.1; pure (.yield ((x.1, a) :: cs)) else pure (.yield cs)) = pure ((y, c) :: acc))
  | [], acc => ⟨fun _ => rfl, fun h => by simp at h⟩
  | (n, k) :: r, acc => by
    have hcell : cellOf env y = pure c := by unfold cellOf; rw [hc]
    cases hk : (k == NameKind.free) with
    | false =>
      constructor
      · intro h
        rw [List.filter_cons_of_neg (by simp [hk])] at h
        rw [List.forIn_cons]
        simp only [hk, Bool.false_eq_true, if_false, pure_bind]
        exact (clos_go hc).1 h
      · intro h
        rw [List.filter_cons_of_neg (by simp [hk])] at h
        rw [List.forIn_cons]
        simp only [hk, Bool.false_eq_true, if_false, pure_bind]
        exact (clos_go hc).2 h
    | true =>
      constructor
      · intro h
        rw [List.filter_cons_of_pos (by simp [hk])] at h
        cases h
      · intro h
        rw [List.filter_cons_of_pos (by simp [hk])] at h
        rw [List.cons.injEq] at h
        obtain ⟨h1, h2⟩ := h
        cases h1
        rw [List.forIn_cons]
        simp only [hk, if_true, hcell, pure_bind]
        exact (clos_go hc).1 h2
theorem clos_one {scope : Scope} {env : Env} {c : Addr} {y : Str} (hc : env.cells.lookup y = some c) (h : scope.names.filter (·.2 == .free) = [(y, .free)]) : closureFor scope env = pure [(y, c)] := by
  unfold closureFor
  have := (clos_go hc (acc := [])).2 h
  simp only [bind_pure_comp] at this ⊢
  first
    | exact this
    | (rw [this]; rfl)
    | simpa using this

section
variable {C : Cx} {A : Around} {F : Fx} {ρ : List Slot}
theorem ItrE.seq (hF : FxOK C A F) (hh : A.handled = none) {x : Str} {px : Pos} {iter : PySem.Expr} {d : PyData} {ds : List PyData} {target : PySem.Expr} (he : EvE C A (FS F ρ) F.env iter d) (hd : d = .list ds ∨ d = .tuple ds) :
    ItrE C A F ρ target iter ds.length (fun i => ds.getD i .none) := fun pin Z s K E hst hK => by
  refine he Z s _ _ ⟨pin, hst⟩ fun v Z1 s1 x1 r1 => ?_
  have hst1 := hst.ext x1
  have H1 : HasL s1.heap Z1 := fun p hp => hst1.pins p (by simp [hp])
  have fresh := fresh_get s1.heap
  have wrn : ∀ b ∈ [s1.heap.objs.size], s.heap.get? b = none := fun b hb => by rw [List.mem_singleton.mp hb]; exact none_of_keep x1.keep fresh
  rcases hd with rfl | rfl
  · cases r1 with
    | list hm hc hdt hi =>
      have hl : s1.heap.IsList _ _ := ⟨_, H1 _ hm, hc, _, hdt⟩
      refine wpAny_pyIter_list hl ?_
      have hne := Nat.ne_of_lt (Heap.lt_size (H1 _ hm))
      refine hK _ _ _ [(s1.heap.objs.size, { cls := .type "list_iterator", data := .fields #[.ref _, .int 0 0] })] _ Z1 _ (x1.trans (.grow (tk := s1.toks) (push_keeps _))) (Itr.list hh hne hm hi) rfl
        (hst1.pinNew (push_keeps _) fresh (Heap.get?_push_size _ rfl)) ⟨⟨_, Heap.get?_push_size _ rfl, rfl, rfl⟩, hl.at fun o e => Heap.get?_push_of_some _ e⟩ wrn fun st Q E' h q => wpAny_pyIter_listiter h.1 q
  · cases r1 with
    | tuple hm hc hdt hi =>
      have hl : s1.heap.IsTuple _ _ := ⟨_, H1 _ hm, hc, _, hdt⟩
      refine wpAny_pyIter_tuple hl ?_
      have hne := Nat.ne_of_lt (Heap.lt_size (H1 _ hm))
      refine hK _ _ _ [(s1.heap.objs.size, { cls := .type "tuple_iterator", data := .fields #[.ref _, .int 0 0] })] _ Z1 _ (x1.trans (.grow (tk := s1.toks) (push_keeps _))) (Itr.tuple hh hne hm hi) rfl
        (hst1.pinNew (push_keeps _) fresh (Heap.get?_push_size _ rfl)) ⟨⟨_, Heap.get?_push_size _ rfl, rfl, rfl⟩, hl.at fun o e => Heap.get?_push_of_some _ e⟩ wrn fun st Q E' h q => (Walks.tuple (prog := C.prog) (w := C.w) (A := A) hh _ _ hne _).self 0 st Q E' h q
theorem ItrE.range (hF : FxOK C A F) (hh : A.handled = none) {iter target : PySem.Expr} {a : Int} {n : Nat} (he : RangeE C A (FS F ρ) F.env iter a n) :
    ItrE C A F ρ target iter n (fun i => .int (a + (i : Int))) := fun pin Z s K E hst hK => by
  refine he Z s _ _ ⟨pin, hst⟩ fun r b t u v s1 x1 hr hsm hsz => ?_
  have hst1 := hst.ext x1
  have fresh := fresh_get s1.heap
  have wrn : ∀ b ∈ [s1.heap.objs.size], s.heap.get? b = none := fun b hb => by rw [List.mem_singleton.mp hb]; exact none_of_keep x1.keep fresh
  refine wpAny_pyIter_range hr hsm ?_
  rw [hsz]
  refine hK _ _ _ [(s1.heap.objs.size, { cls := .type "range_iterator", data := .fields #[rawInt a, rawInt (n : Int), rawInt 1] })] _ Z _ (x1.trans (.grow (tk := s1.toks) (push_keeps _))) (Itr.range (target := target) (Z₀ := Z) (a := a) (n := n) hh) rfl
    (hst1.pinNew (push_keeps _) fresh (Heap.get?_push_size _ rfl)) ?_ wrn fun st Q E' h q => (Walks.range (prog := C.prog) (w := C.w) (A := A) hh _ a 1 n).self 0 st Q E' h q
  show IsRangeIter _ _ _ _ _
  have := Heap.get?_push_size s1.heap (o := { cls := .type "range_iterator", data := .fields #[rawInt a, rawInt (n : Int), rawInt 1] }) rfl
  simpa using this
theorem CAsg.name {x : Str} {px : Pos} {cenv : Env} {d : PyData} (hk : cenv.scope.kind = .function) (hx : cenv.kindOf x = some .local) : CAsg C A (.Name x px) cenv d [(x, d)] := fun Z s v m K E hns H hoff r hK => by
  refine wpAny_assign_Name (wpAny_storeName_local hx hns (fun h' hn' hs' => hK h' _ _ hn' (fun p hp => ?_) fun b o hb e => hs'.extBut b o hb e) (by rw [hk]; rfl))
  rw [List.mem_singleton.mp hp]
  exact ⟨v, by simp, r⟩
end

/-! ### the walk within a comprehension -/
theorem lookup_relabel {env : Env} {k : NameKind} (hk : (k == .free) = false) : ∀ {names : List (Str × NameKind)} {x : Str}, names.lookup x = some k →
    (names.map fun (n, k) => if (k == NameKind.free && env.scope.kind == .function && env.kindOf n == some .cell) then (n, NameKind.cell) else (n, k)).lookup x = some k
  | [], _, h => by simp at h
  | (n, k') :: r, x, h => by
    have ih := @lookup_relabel env k hk r x
    show List.lookup x ((if (k' == NameKind.free && env.scope.kind == .function && env.kindOf n == some .cell) = true then (n, NameKind.cell) else (n, k')) :: _) = _
    cases hx : x == n with
    | true =>
      simp only [List.lookup_cons, hx] at h
      cases h
      simp [List.lookup_cons, hx, hk]
    | false =>
      simp only [List.lookup_cons, hx] at h
      by_cases hc : (k' == NameKind.free && env.scope.kind == .function && env.kindOf n == some .cell) = true
      · rw [if_pos hc]; simp only [List.lookup_cons, hx]; exact ih h
      · rw [if_neg hc]; simp only [List.lookup_cons, hx]; exact ih h
theorem lookup_relabelF {env : Env} (hke : env.scope.kind = .function) : ∀ {names : List (Str × NameKind)} {x : Str}, names.lookup x = some .free → env.kindOf x = some .cell →
    (names.map fun (n, k) => if (k == NameKind.free && env.scope.kind == .function && env.kindOf n == some .cell) then (n, NameKind.cell) else (n, k)).lookup x = some .cell
  | [], _, h, _ => by simp at h
  | (n, k') :: r, x, h, he => by
    have ih := @lookup_relabelF env hke r x
    show List.lookup x ((if (k' == NameKind.free && env.scope.kind == .function && env.kindOf n == some .cell) = true then (n, NameKind.cell) else (n, k')) :: _) = _
    cases hx : x == n with
    | true =>
      simp only [List.lookup_cons, hx] at h
      cases h
      have : x = n := by simpa using hx
      subst this
      simp [List.lookup_cons, he, hke]
    | false =>
      simp only [List.lookup_cons, hx] at h
      by_cases hc : (k' == NameKind.free && env.scope.kind == .function && env.kindOf n == some .cell) = true
      · rw [if_pos hc]; simp only [List.lookup_cons, hx]; exact ih h he
      · rw [if_neg hc]; simp only [List.lookup_cons, hx]; exact ih h he

/-- what the walk of a comprehension's parts leans on -/
structure Uk (C : Cx) (A : Around) (F : Fx) (ρ : List Slot) (xs : List (Str × PyData)) (cenv : Env) (k : Nat) (gs ls : List Str) : Prop where
  ok : Okay C A (CS F ρ xs cenv)
  room : Room A k
  hh : A.handled = none
  hu : A.units + 200 < cLine
  hk : cenv.scope.kind = .function
  hg : cenv.globals = mainGlobals
  hb : cenv.builtins = builtinsNs
  hG : ∀ x ∈ gs, cenv.kindOf x = some .globalImplicit ∧ (x == ("__debug__" : Str)) = false
  hL : ∀ x ∈ ls, cenv.kindOf x = some .local ∧ (x == ("__debug__" : Str)) = false

noncomputable def scopeU (scope : Scope) (gs ls : List Str) : Bool :=
  gs.all (fun x => !(x == ("__debug__" : Str)) && scope.names.lookup x == some .globalImplicit) && ls.all (fun x => !(x == ("__debug__" : Str)) && scope.names.lookup x == some .local) && scope.kind == .function &&
  scope.names.all (fun y => y.2 != .cell) && scope.names.all (fun y => !(y.2 == .local) || scope.names.lookup y.1 == some .local)
section
variable {C : Cx} {A : Around} {F : Fx} {ρ : List Slot} {k : Nat} {ns gs gs' ls : List Str} {scope : Scope} {cl : List (Str × Addr)}
theorem scopeU_ok (h : scopeU scope gs' ls = true) : (∀ x ∈ gs', (x == ("__debug__" : Str)) = false ∧ scope.names.lookup x = some .globalImplicit) ∧ (∀ x ∈ ls, (x == ("__debug__" : Str)) = false ∧ scope.names.lookup x = some .local) ∧ scope.kind = .function ∧
    (∀ y ∈ scope.names, y.2 ≠ .cell) ∧ (∀ y ∈ scope.names, y.2 = .local → scope.names.lookup y.1 = some .local) := by
  unfold scopeU at h
  simp only [Bool.and_eq_true, List.all_eq_true, Bool.not_eq_true', beq_iff_eq, bne_iff_ne, Bool.or_eq_true, Bool.not_eq_eq_eq_not, Bool.not_true, beq_eq_false_iff_ne] at h
  obtain ⟨⟨⟨⟨h1, h2⟩, h3⟩, h4⟩, h5⟩ := h
  refine ⟨fun x hx => ⟨by simpa using (h1 x hx).1, (h1 x hx).2⟩, fun x hx => ⟨by simpa using (h2 x hx).1, (h2 x hx).2⟩, h3, h4, fun y hy e => ?_⟩
  rcases h5 y hy with q | q
  · exact absurd e q
  · exact q
theorem Uk.of (W : Wk C A F k ns gs) (h : scopeU scope gs' ls = true) (xs : List (Str × PyData)) (Cc : Addr) (h9 : k ≤ 100 := by decide) : Uk C A F ρ xs (compEnvC scope cl Cc F.env) k gs' ls := by
  obtain ⟨h1, h2, h3, _, _⟩ := scopeU_ok h
  exact ⟨W.hF.okayC ρ xs _, W.rm h9, (W.hh h9), W.hu, h3, W.hF.hg, W.hF.hb, fun x hx => ⟨lookup_relabel rfl (h1 x hx).2, (h1 x hx).1⟩, fun x hx => ⟨lookup_relabel rfl (h2 x hx).2, (h2 x hx).1⟩⟩
end

/-- the name that the comprehension takes in -/
structure Cap (C : Cx) (A : Around) (F : Fx) (ρ : List Slot) (xs : List (Str × PyData)) (cenv : Env) (ns : List Str) (y : Str) : Prop where
  ev : ∀ {pos : Pos} {d : PyData} {i : Nat}, Var ns ρ y i (.dat d) → EvE C A (CS F ρ xs cenv) cenv (.Name y pos) d

theorem swaps_true {env : Env} {elt target iter : PySem.Expr} {ifs : List PySem.Expr} {scope : Scope} {pos zp : Pos} {z : Str} {sl : Nat} (hk : env.scope.kind = .function) (hz : env.kindOf z = some .local) (hp : (zp.line == pos.line && !(scope.names.any fun n => n.1 == z && (n.2 == .local || n.2 == .cell))) = true) :
    swapsWith (.ListComp elt [⟨target, iter, ifs, 0⟩] scope pos) (some (.Name z zp)) sl env = pure true := by
  have e : env.blockKind = .function := by unfold Env.blockKind; rw [hk]; rfl
  show (pure (env.blockKind == .function && env.kindOf z == some .local && zp.line == pos.line && !(scope.names.any fun n => n.1 == z && (n.2 == .local || n.2 == .cell))) : Sem Bool) = pure true
  rw [Bool.and_eq_true] at hp
  rw [e, hz, hp.1, hp.2]; rfl

namespace V
section
variable {C : Cx} {A : Around} {F : Fx} {k : Nat} {ns gs : List Str} {ρ ρ' : List Slot}
theorem comp0 (W : Wk C A F k ns gs) {elt iter : PySem.Expr} {x : Str} {px pos : Pos} {ifs : List PySem.Expr} {scope : Scope} {n : Nat} {item g : Nat → PyData} {tst : Nat → Bool} (gs' ls : List Str)
    (hsc : scopeU scope gs' ls = true) (hx : x ∈ ls) (hfree : scope.names.all (fun y => y.2 != .free) = true) (hn : n ≤ 2 ^ 20) (hit : ItrE C A F ρ (.Name x px) iter n item)
    (htst : ∀ cenv i, i < n → Uk C A F ρ [(x, item i)] cenv k gs' ls → EvIfs C A (CS F ρ [(x, item i)] cenv) cenv ifs (tst i))
    (helt : ∀ cenv i, i < n → tst i = true → Uk C A F ρ [(x, item i)] cenv k gs' ls → EvE C A (CS F ρ [(x, item i)] cenv) cenv elt (g i))
    (hs : ∀ x, foldedSetIterable iter F.env x = pure x := by intro _; with_unfolding_all rfl) (h9 : k ≤ 100 := by decide) : EvE C A (FS F ρ) F.env (.ListComp elt [⟨.Name x px, iter, ifs, 0⟩] scope pos) (.list (((List.range n).filter tst).map g)) := by
  obtain ⟨h1, h2, h3, h4, h5⟩ := scopeU_ok hsc
  have hcl : closureFor scope F.env = pure [] := closureFor_none fun y hy => by simpa using List.all_eq_true.mp hfree y hy
  exact EvE.comp W.hF hn hcl h4 h3 h5 hit (fun Cc i hi => CAsg.name h3 (lookup_relabel rfl (h2 x hx).2)) (fun Cc i hi => htst _ i hi (Uk.of W hsc _ _ h9)) (fun Cc i hi ht => helt _ i hi ht (Uk.of W hsc _ _ h9)) hs
theorem comp1_cap (W : Wk C A F k ns gs) {y : Str} (K : Ck F y) {scope : Scope} (h3 : scope.kind = .function) (hfree : scope.names.filter (·.2 == .free) = [(y, .free)]) (hlk : scope.names.lookup y = some .free) (hd : (y == ("__debug__" : Str)) = false) :
    ∃ cl, closureFor scope F.env = pure cl ∧ ∀ Cc xs, Cap C A F ρ xs (compEnvC scope cl Cc F.env) ns y := by
  obtain ⟨c, hc⟩ := K.cell
  exact ⟨_, clos_one hc hfree, fun Cc xs => ⟨fun hv => EvE.capt h3 (lookup_relabelF W.hF.hk hlk K.kind) hd (by simp [compEnvC]) hc K.kind (W.hns ▸ hv)⟩⟩
theorem comp1 (W : Wk C A F k ns gs) {y : Str} (K : Ck F y) {elt iter : PySem.Expr} {x : Str} {px pos : Pos} {ifs : List PySem.Expr} {scope : Scope} {n : Nat} {item g : Nat → PyData} {tst : Nat → Bool} (gs' ls : List Str)
    (hsc : scopeU scope gs' ls = true) (hx : x ∈ ls) (hfree : scope.names.filter (·.2 == .free) = [(y, .free)]) (hlk : scope.names.lookup y = some .free) (hd : (y == ("__debug__" : Str)) = false) (hn : n ≤ 2 ^ 20) (hit : ItrE C A F ρ (.Name x px) iter n item)
    (htst : ∀ cenv i, i < n → Uk C A F ρ [(x, item i)] cenv k gs' ls → Cap C A F ρ [(x, item i)] cenv ns y → EvIfs C A (CS F ρ [(x, item i)] cenv) cenv ifs (tst i))
    (helt : ∀ cenv i, i < n → tst i = true → Uk C A F ρ [(x, item i)] cenv k gs' ls → Cap C A F ρ [(x, item i)] cenv ns y → EvE C A (CS F ρ [(x, item i)] cenv) cenv elt (g i))
    (hs : ∀ x, foldedSetIterable iter F.env x = pure x := by intro _; with_unfolding_all rfl) (h9 : k ≤ 100 := by decide) : EvE C A (FS F ρ) F.env (.ListComp elt [⟨.Name x px, iter, ifs, 0⟩] scope pos) (.list (((List.range n).filter tst).map g)) := by
  obtain ⟨h1, h2, h3, h4, h5⟩ := scopeU_ok hsc
  obtain ⟨cl, hcl, cap⟩ := comp1_cap (ρ := ρ) W K h3 hfree hlk hd
  exact EvE.comp W.hF hn hcl h4 h3 h5 hit (fun Cc i hi => CAsg.name h3 (lookup_relabel rfl (h2 x hx).2)) (fun Cc i hi => htst _ i hi (Uk.of W hsc _ _ h9) (cap _ _)) (fun Cc i hi ht => helt _ i hi ht (Uk.of W hsc _ _ h9) (cap _ _)) hs
/-- a comprehension whose list goes straight into a name -/
theorem acomp1 (W : Wk C A F k ns gs) {y : Str} (K : Ck F y) {z : Str} {zp spos : Pos} {elt iter : PySem.Expr} {x : Str} {px pos : Pos} {ifs : List PySem.Expr} {scope : Scope} {n : Nat} {item g : Nat → PyData} {tst : Nat → Bool} (gs' ls : List Str) {i : Nat} {Q : Out → Prop}
    (hsc : scopeU scope gs' ls = true) (hx : x ∈ ls) (hfree : scope.names.filter (·.2 == .free) = [(y, .free)]) (hlk : scope.names.lookup y = some .free) (hd : (y == ("__debug__" : Str)) = false) (hn : n ≤ 2 ^ 20) (hit : ItrE C A F ρ (.Name x px) iter n item)
    (htst : ∀ cenv i, i < n → Uk C A F ρ [(x, item i)] cenv k gs' ls → Cap C A F ρ [(x, item i)] cenv ns y → EvIfs C A (CS F ρ [(x, item i)] cenv) cenv ifs (tst i))
    (helt : ∀ cenv i, i < n → tst i = true → Uk C A F ρ [(x, item i)] cenv k gs' ls → Cap C A F ρ [(x, item i)] cenv ns y → EvE C A (CS F ρ [(x, item i)] cenv) cenv elt (g i))
    (hu : Upd ns ρ z (.dat (.list (((List.range n).filter tst).map g))) i ρ') (hq : Q (.next ρ'))
    (hs : ∀ x, foldedSetIterable iter F.env x = pure x := by intro _; with_unfolding_all rfl)
    (hzy : z ≠ y := by decide) (hzp : (zp.line == pos.line && !(scope.names.any fun n => n.1 == z && (n.2 == .local || n.2 == .cell))) = true := by decide +kernel) (h9 : k ≤ 100 := by decide) :
    Ex1 C A F ρ (.Assign [.Name z zp] (.ListComp elt [⟨.Name x px, iter, ifs, 0⟩] scope pos) spos) Q := by
  have hsw := swaps_true (elt := elt) (target := .Name x px) (iter := iter) (ifs := ifs) (sl := spos.line) W.hF.hk (K.loc z (by rw [W.hns]; exact mem_of_get hu.at.1) hzy) hzp
  obtain ⟨h1, h2, h3, h4, h5⟩ := scopeU_ok hsc
  obtain ⟨cl, hcl, cap⟩ := comp1_cap (ρ := ρ) W K h3 hfree hlk hd
  exact Ex1.assignComp W.hF hn hcl h4 h3 h5 hit (fun Cc i hi => CAsg.name h3 (lookup_relabel rfl (h2 x hx).2)) (fun Cc i hi => htst _ i hi (Uk.of W hsc _ _ h9) (cap _ _)) (fun Cc i hi ht => helt _ i hi ht (Uk.of W hsc _ _ h9) (cap _ _)) (W.hns ▸ hu) hq hs hsw
theorem itSeq (W : Wk C A F k ns gs) {iter : PySem.Expr} {d : PyData} {ds : List PyData} {target : PySem.Expr} (he : EvE C A (FS F ρ) F.env iter d) (hd : d = .list ds ∨ d = .tuple ds) (h9 : k ≤ 100 := by decide) : ItrE C A F ρ target iter ds.length (fun i => ds.getD i .none) := ItrE.seq (x := "") (px := ⟨0,0,0,0⟩) W.hF (W.hh h9) he hd
theorem itRange (W : Wk C A F k ns gs) {iter target : PySem.Expr} {a : Int} {n : Nat} (he : RangeE C A (FS F ρ) F.env iter a n) (h9 : k ≤ 100 := by decide) : ItrE C A F ρ target iter n (fun i => .int (a + (i : Int))) := ItrE.range W.hF (W.hh h9) he
end
end V
namespace U
section
variable {C : Cx} {A : Around} {F : Fx} {k : Nat} {ns gs ls : List Str} {ρ : List Slot} {xs : List (Str × PyData)} {cenv : Env}
theorem var (W : Uk C A F ρ xs cenv k gs ls) {x : Str} {pos : Pos} {d : PyData} (hx : x ∈ ls) (hm : (x, d) ∈ xs) : EvE C A (CS F ρ xs cenv) cenv (.Name x pos) d := EvE.cvar hm W.hk (W.hL x hx).1 (W.hL x hx).2
theorem bin (W : Uk C A F ρ xs cenv k gs ls) {op : PySem.Operator} {l r : PySem.Expr} {pos : Pos} {d1 d2 d : PyData} (h1 : EvE C A (CS F ρ xs cenv) cenv l d1) (h2 : EvE C A (CS F ρ xs cenv) cenv r d2) (hb : BinR op d1 d2 d) : EvE C A (CS F ρ xs cenv) cenv (.BinOp l op r pos) d := EvE.bin W.ok h1 h2 hb
theorem cmpB (W : Uk C A F ρ xs cenv k gs ls) {op : PySem.CmpOp} {l r : PySem.Expr} {pos : Pos} {d1 d2 : PyData} {b : Bool} (h1 : EvE C A (CS F ρ xs cenv) cenv l d1) (h2 : EvE C A (CS F ρ xs cenv) cenv r d2) (hb : CmpR op d1 d2 b)
    (hm : behindInMarks op r = false := by with_unfolding_all rfl) : EvB C A (CS F ρ xs cenv) cenv (.Compare l [op] [r] pos) b := EvB.cmp W.ok W.hu h1 h2 hb hm
theorem cons (W : Uk C A F ρ xs cenv k gs ls) {e : PySem.Expr} {es : List PySem.Expr} {d : PyData} {ds : List PyData} (h : EvE C A (CS F ρ xs cenv) cenv e d) (r : EvEs C A (CS F ρ xs cenv) cenv es ds)
    (he : starEach (e :: es) cenv = (false, eval e cenv) :: starEach es cenv := by with_unfolding_all rfl) : EvEs C A (CS F ρ xs cenv) cenv (e :: es) (d :: ds) := EvEs.cons W.ok h r he
theorem item (W : Uk C A F ρ xs cenv k gs ls) {value slice : PySem.Expr} {pos : Pos} {d d' : PyData} {ds : List PyData} {i : Int} {j : Nat} (h1 : EvE C A (CS F ρ xs cenv) cenv value d) (h2 : EvE C A (CS F ρ xs cenv) cenv slice (.int i))
    (hd : d = .list ds ∨ d = .tuple ds) (hz : ds.length ≤ 2 ^ 40) (hj : seqIndex? i ds.length = some j) (hx : ds[j]? = some d')
    (hs : notSlice slice = true := by with_unfolding_all rfl) : EvE C A (CS F ρ xs cenv) cenv (.Subscript value slice pos) d' := EvE.item W.ok h1 h2 hd hz hj hx hs
theorem andB (W : Uk C A F ρ xs cenv k gs ls) {e : PySem.Expr} {es : List PySem.Expr} {b c : Bool} {pos : Pos} (h : EvB C A (CS F ρ xs cenv) cenv e b) (r : b = true → EvB C A (CS F ρ xs cenv) cenv (.BoolOp .And es pos) c) : EvB C A (CS F ρ xs cenv) cenv (.BoolOp .And (e :: es) pos) (b && c) :=
  EvB.and W.ok h r
theorem plainB (W : Uk C A F ρ xs cenv k gs ls) {e : PySem.Expr} {b : Bool} (h : EvE C A (CS F ρ xs cenv) cenv e (.bool b)) (he : ∀ whole, isTrue e cenv whole = (do let v ← whole; standAt e.pos; holding [v] (truthy v)) := by intro _; with_unfolding_all rfl) : EvB C A (CS F ρ xs cenv) cenv e b :=
  EvB.plain W.ok h he
theorem gl (W : Uk C A F ρ xs cenv k gs ls) {x : Str} {a : Addr} (hx : x ∈ gs) (h : Gl C x a) : NmV C A (CS F ρ xs cenv) cenv x (.ref a) := NmV.glob W.ok W.hk W.hg (W.hG x hx).1 (W.hG x hx).2 h
theorem call (W : Uk C A F ρ xs cenv k gs ls) {x : Str} {np pos : Pos} {e : PySem.Expr} {es : List PySem.Expr} {f : Addr} {k' : Nat} {ds : List PyData} {d : PyData} (hx : x ∈ gs) (hg : Gl C x f) (hfn : IsFn C f) (ha : EvEs C A (CS F ρ xs cenv) cenv (e :: es) ds)
    (hf : FnOK C f k' ds d) (hk : k' ≤ k) (he : starEach (e :: es) cenv = (false, eval e cenv) :: starEach es cenv := by with_unfolding_all rfl) : EvE C A (CS F ρ xs cenv) cenv (.Call (.Name x np) (e :: es) [] pos) d :=
  EvE.call W.ok (W.room.le hk) W.hh (gl W hx hg) hfn ha hf he
end
end U
end Mine

namespace Mine
open PySem PySem.W PySem.Spec PySem.Calls PyProof.Rows
section
variable {C : Cx} {f : Addr} {params : Arguments} {body : List PySem.Stmt} {scope : Scope} {s : Shared}

/-- the law's own call, from the claim's caller -/
theorem top_plain (D : DefAt C f params body scope) (more : List Str) {p : Str} {k : Nat} (hps : params.args.map (·.arg) = [p]) (hS : ScopeOK scope (p :: more)) (hk : k ≤ 100)
    (X : C.K.In s.heap) (T : TopX C s.heap) (hKl : ∀ b o, C.K.lookup b = some o → o.cls ≠ .type "list")
    {a : Addr} {vs : List Value} {ns : List Int} (hl : s.heap.IsList a vs.toArray) (hi : IntsAre vs ns)
    (hb : ∀ A F, FxOK C A F → F.ns = p :: more → F.env.scope = scope → F.outer = [] → Room A k → A.handled = none → A.units + 200 < cLine →
      ExS C A F (.dat (.list (ns.map .int)) :: more.map fun _ => .undef) body (RetQ (.bool true)))
    {R : Result → Shared → Prop} (hR : ∀ s', (∀ b o, s.heap.get? b = some o → s'.heap.get? b = some o) → (∃ h tk, s' = { s with heap := h, toks := tk }) → R (.ok (.ret (.bool true))) s') :
    codeAny (model C.prog C.w) callerA (.call (.ref f) ⟨[.ref a], []⟩) R s := by
  obtain ⟨name, qual, dV, kV, doc, pm, an, cdv, ct, oc, od, osl, hlk, hcd, hbind⟩ := D.at_
  obtain ⟨ol, hol, hcl, n, hdl⟩ := hl
  have hfo := X _ _ hlk
  have hlen : params.args.length = 1 := by have := congrArg List.length hps; simpa using this
  have hbinds := hbind [.ref a] (by rw [hlen]; rfl)
  rw [hps] at hbinds
  refine codeAny_call_def (o := ⟨oc, od, .func (fnOf name qual params body scope dV kV doc pm an cdv ct), osl⟩) (fd := fnOf name qual params body scope dV kV doc pm an cdv ct) (body := body) (binds := [p].zip [.ref a])
    (by decide) hfo rfl T.top.nolimit (codeRec_of X hcd) rfl (.of_eq hbinds) hS.cell ?_ (fun h₁ hns hk₁ => ?_) hS.co hS.gen hS.kind
  · intro y hy
    have : y.1 ∈ [p] := (List.of_mem_zip (show (y.1, y.2) ∈ _ from hy)).1
    exact (hS.kinds y.1 (by rw [List.mem_singleton.mp this]; exact .head _)).2
  have hnd : ∀ es n, ol.data ≠ .dict es n := fun es n e => by rw [hdl] at e; cases e
  have hga : ∀ b o, s.heap.get? b = some o → b ≠ a → (hideAll s.heap [a]).get? b = some o := fun b o e hne => hideAll_get _ e fun q => hne (List.mem_singleton.mp q)
  have X' : C.K.In (hideAll s.heap [a]) := fun b o e => hga b o (X b o e) fun q => by
    have := X b o e
    rw [q, hol] at this
    exact hKl b o e (Option.some.inj this ▸ hcl)
  have T' : TopX C (hideAll s.heap [a]) := T.hide hol (fun es n e => by rw [hdl] at e; cases e) (fun cd e => by rw [hdl] at e; cases e)
  generalize hgd : hideAll s.heap [a] = g at X' T' hga
  have F' : Fr g s.heap.objs.size h₁ (fun y => ([p].zip [Value.ref a]).reverse.lookup y) := ⟨hns, fun b o e => hk₁ b o (of_hideAll _ (hgd ▸ e)), by rw [← hgd]; exact Nat.le_of_eq (hideAll_size _ _)⟩
  have N' : News g s.heap.objs.size h₁ [(a, ol)] := fun q hq => by
    obtain rfl := List.mem_singleton.mp hq
    exact ⟨hk₁ _ _ hol, Nat.ne_of_lt (Heap.lt_size hol), by rw [← hgd]; exact hideAll_none _ (.head _)⟩
  show wpAny _ (callerA.deeper (envX qual scope s.heap.objs.size f cdv [])) (execs body (envX qual scope s.heap.objs.size f cdv [])) _ _ _
  generalize hL' : s.heap.objs.size = L' at *
  let F : Fx := { A₀ := callerA, base := g, outer := [], h₀ := g, L := L', env := envX qual scope L' f cdv [], ns := p :: more }
  have hF : FxOK C (callerA.deeper (envX qual scope L' f cdv [])) F :=
    { B := below_caller g, XB := X', TB := T', hA := rfl, hf := rfl, hl := rfl, hk := hS.kind, hg := rfl, hb := rfl, nd := hS.nd,
      kinds := fun x hx => ⟨(hS.kinds x hx).1, .inl (hS.kinds x hx).2⟩, cinj := fun x y c hx => by cases hx }
  have hst : FSt F (.dat (.list (ns.map .int)) :: more.map fun _ => .undef) [] [(a, ol)] { s with heap := h₁, toks := s.toks + ([p].zip [Value.ref a]).length } := by
    refine ⟨_, [], fun _ => 0, F', by simpa using N', (fun p hp => nomatch hp), (fun p hp => nomatch hp), fun i x sl hi' hs => ?_, fun i j x y ds' es _ _ hi' => ?_, fun x c hc => by cases hc⟩
    · cases i with
      | zero =>
        have hx : p = x := by simpa [F] using hi'
        simp at hs
        subst hs hx
        exact ⟨.ref a, .inl ⟨(hS.kinds p (.head _)).2, by simp⟩, .list (.head _) hcl hdl (ints_rps hi)⟩
      | succ i =>
        simp at hs
        obtain ⟨_, rfl⟩ := hs
        trivial
    · cases i with
      | zero => simp at hi'
      | succ i => simp at hi'
  have hroom' : Room (callerA.deeper (envX qual scope L' f cdv [])) k := by
    have e1 : (callerA.deeper (envX qual scope L' f cdv [])).depth = callerA.depth + 1 := rfl
    have e2 : callerA.depth ≤ 801 := by decide
    have e3 : (callerA.deeper (envX qual scope L' f cdv [])).units = 7 := rfl
    exact ⟨by omega, by omega⟩
  refine wpAny_mono (hb _ F hF rfl rfl rfl hroom' rfl (by show 7 + 200 < 9900; decide) [] _ _ (fun fl s' => retOf fl = .bool true ∧ ∃ Z' ρ', FSt F ρ' [] Z' s' ∧ Fwd [(a, ol)] { s with heap := h₁, toks := s.toks + ([p].zip [Value.ref a]).length } Z' s') hst fun o fl Z' s' q1 q2 q3 => ?_) (fun fl s' q => ?_) fun _ _ x => x.elim
  · cases o with
    | next ρ' => cases q1
    | cont ρ' => cases q1
    | brk ρ' => cases q1
    | ret d' => obtain ⟨v, ρ', rfl, r, q2⟩ := q2; cases q1; exact ⟨r.boolAt, Z', ρ', q2, q3⟩
  · obtain ⟨e, Z', ρ', ⟨m', muts, oa, hI⟩, hz⟩ := q
    show R (.ok (.ret (retOf fl))) s'
    rw [e]
    refine hR s' (fun b o e0 => ?_) hz.same
    by_cases hb : b = a
    · rw [hb, hol] at e0
      obtain rfl := Option.some.inj e0
      rw [hb]
      exact (hI.newsZ (a, ol) (hz.sub _ (.head _))).1
    · exact hI.fr.keep b o (hga b o e0 hb)

theorem FnTop.of (st : PySem.Stmt) (D : DefAt C f (fdParams st) (fdBody st) (fdScope st)) (p : Str) (more gs : List Str) {k : Nat} (hps : (fdParams st).args.map (·.arg) = [p]) (hS : scopeB (fdScope st) (p :: more) gs = true) (hk : k ≤ 100)
    (X : C.K.In s.heap) (T : TopX C s.heap) (hKl : ∀ b o, C.K.lookup b = some o → o.cls ≠ .type "list")
    {a : Addr} {vs : List Value} {ns : List Int} (hl : s.heap.IsList a vs.toArray) (hi : IntsAre vs ns)
    (hb : ∀ A F, Wk C A F k (p :: more) gs → F.outer = [] → ExS C A F (.dat (.list (ns.map .int)) :: more.map fun _ => .undef) (fdBody st) (RetQ (.bool true)))
    {R : Result → Shared → Prop} (hR : ∀ s', (∀ b o, s.heap.get? b = some o → s'.heap.get? b = some o) → (∃ h tk, s' = { s with heap := h, toks := tk }) → R (.ok (.ret (.bool true))) s') :
    codeAny (model C.prog C.w) callerA (.call (.ref f) ⟨[.ref a], []⟩) R s := by
  unfold scopeB at hS
  simp only [Bool.and_eq_true, decide_eq_true_eq, List.all_eq_true, Bool.not_eq_true', beq_iff_eq, bne_iff_ne] at hS
  obtain ⟨⟨⟨⟨⟨⟨h1, h2⟩, h3⟩, h4⟩, h5⟩, h6⟩, h7⟩ := hS
  exact top_plain D more hps ⟨h1, h2, h4, h5, h6, h7⟩ hk X T hKl hl hi (fun A F hF hn hs ho hr hh hu => hb A F ⟨hF, hn, fun x hx => ⟨by show F.env.scope.names.lookup x = _; rw [hs]; exact (h3 x hx).2, (h3 x hx).1⟩, hr.le (Nat.mod_le _ _), fun _ => hh, hu⟩ ho) hR
end
end Mine

namespace Mine
open PySem PySem.W PySem.Spec PySem.Calls PyProof.Rows

/-! ## Loops that keep a fact: those that may leave early -/
noncomputable def LoopJ (J : Prop) (R : List Slot) (Q : Out → Prop) : Out → Prop
  | .next ρ => J ∧ Sub R ρ
  | .cont ρ => J ∧ Sub R ρ
  | .brk ρ => Q (.next ρ)
  | .ret d => Q (.ret d)
theorem LoopJ.next {J : Prop} {R ρ : List Slot} {Q : Out → Prop} (h : J ∧ Sub R ρ) : LoopJ J R Q (.next ρ) := h
theorem LoopJ.cont {J : Prop} {R ρ : List Slot} {Q : Out → Prop} (h : J ∧ Sub R ρ) : LoopJ J R Q (.cont ρ) := h
theorem LoopJ.ret {J : Prop} {R : List Slot} {d : PyData} {Q : Out → Prop} (h : Q (.ret d)) : LoopJ J R Q (.ret d) := h
section
variable {C : Cx} {A : Around} {F : Fx} {ρ ρ' : List Slot} {pin Z : Led} {s : Shared}
theorem loop_coreJ (hF : FxOK C A F) {target : PySem.Expr} {I : Addr} {wr fp : List Addr} {n : Nat} {item : Nat → PyData} {StI : Nat → Heap → Prop} {Z₀ : Led} (W : Itr C A target I wr fp n item StI Z₀) {body : List PySem.Stmt}
    (P : Nat → List Slot) (J : Nat → Prop) (j0 : J 0) {Q : Out → Prop} {ws : Led} (hws : ws.map (·.1) = wr) (hst : FSt F (P 0) (ws ++ pin) Z₀ s) (hd : ∀ p ∈ pin ++ Z₀, p.1 ∉ wr) (h0 : StI 0 s.heap)
    (turn : ∀ k, k < n → J k → ∃ ρ', Asg C A F (P k) target (item k) ρ' ∧ ExS C A F ρ' body (LoopJ (J (k + 1)) (P (k + 1)) Q)) (done : J n → Q (.next (P n)))
    {R : Result → Shared → Prop} (hR : ∀ o fl Z' s', Q o → OutAt F pin o fl Z' s' → Fwd Z₀ s Z' s' → R (.ok fl) s') : codeAny (model C.prog C.w) A (.forLoop target (.ref I) body [] F.env) R s := by
  refine codeAny_forLoop_any (fun j s' => ∃ k ws' Z', j = n + 1 - k ∧ J k ∧ k ≤ n ∧ ws'.map (·.1) = wr ∧ FSt F (P k) (ws' ++ pin) Z' s' ∧ Fwd Z₀ s Z' s' ∧ (∀ p ∈ pin ++ Z', p.1 ∉ wr) ∧ StI k s'.heap) ?_ (n + 1)
    ⟨0, ws, Z₀, rfl, j0, Nat.zero_le _, hws, hst, .refl, hd, h0⟩
  rintro j s' ⟨k, ws', Z', rfl, hJ, hk, hws', hst', hz', hd', hI⟩
  have H : HasL s'.heap Z' := fun p hp => hst'.pins p (by simp [hp])
  by_cases hlt : k < n
  · refine wpAny_mono (W.next k Z' s' (fun v s₂ => ∃ Z₂ h' tk, s₂ = { s' with heap := h', toks := tk } ∧ StI (k + 1) h' ∧ (∀ b o, b ∉ wr → s'.heap.get? b = some o → h'.get? b = some o) ∧ (∀ p ∈ Z', p ∈ Z₂) ∧ (∀ p ∈ Z₂, p ∈ Z' ∨ (s'.heap.get? p.1 = none ∧ h'.get? p.1 = some p.2)) ∧ Rp Z₂ v (item k))
      hlt hI H hz'.sub (fun p hp => hd' p (by simp [hp])) fun v Z₂ h' tk a1 a2 a3 a4 a5 => ⟨Z₂, h', tk, rfl, a1, a2, a3, a4, a5⟩) (fun r s₁ hr => ?_) fun _ _ x => x.elim
    cases r with
    | none => exact hr.elim
    | some v =>
      refine wpAny_mono hr (fun _ s₂ h₂ => ?_) fun _ _ x => x.elim
      obtain ⟨Z₂, h', tk, rfl, a1, a2, a3, a4, a5⟩ := h₂
      obtain ⟨ws₂, e₂, hw₂⟩ := objs_at (W.live (k + 1) h' a1)
      have hst₂ : FSt F (P k) (ws₂ ++ pin) Z₂ { s' with heap := h', toks := tk } := hst'.moved (fun b o hb => a2 b o (hws' ▸ hb)) (fun p hp => ⟨hw₂ p hp, by rw [hws', ← e₂]; exact List.mem_map_of_mem hp⟩) (fun p hp => by rw [hws']; exact hd' p hp) a3 a4
      have hd₂ : ∀ p ∈ pin ++ Z₂, p.1 ∉ wr := fun p hp => by
        rcases List.mem_append.mp hp with hp | hp
        · exact hd' p (by simp [hp])
        · rcases a4 p hp with q | ⟨q, _⟩
          · exact hd' p (by simp [q])
          · intro hb
            obtain ⟨o, ho⟩ := W.live k _ hI p.1 hb
            rw [q] at ho; cases ho
      obtain ⟨ρ', hasg, hbody⟩ := turn k hlt hJ
      refine wpAny_mono (hasg (ws₂ ++ pin) Z₂ _ v _ hst₂ a5 fun Z₃ s₃ hst₃ hz₃ => ?_) (fun _ _ x => x) fun _ _ x => x.elim
      refine wpAny_mono (hbody (ws₂ ++ pin) Z₃ s₃ (fun f s₄ => ∃ o Z₄, LoopJ (J (k + 1)) (P (k + 1)) Q o ∧ OutAt F (ws₂ ++ pin) o f Z₄ s₄ ∧ Fwd Z₃ s₃ Z₄ s₄) hst₃ fun o fl Z₄ s₄ q1 q2 q3 => ⟨o, Z₄, q1, q2, q3⟩) (fun f s₄ h₄ => ?_) fun _ _ x => x.elim
      obtain ⟨o, Z₄, q1, q2, q3⟩ := h₄
      have hz₄ : Fwd Z₀ s Z₄ s₄ := hz'.trans (.trans (Z' := Z₂) ⟨⟨h', tk, rfl⟩, a3⟩ (hz₃.trans q3))
      have more : ∀ R', FSt F R' (ws₂ ++ pin) Z₄ s₄ → J (k + 1) ∧ Sub (P (k + 1)) R' → ∃ mm, mm < n + 1 - k ∧ ∃ k' ws' Z', mm = n + 1 - k' ∧ J k' ∧ k' ≤ n ∧ ws'.map (·.1) = wr ∧ FSt F (P k') (ws' ++ pin) Z' s₄ ∧ Fwd Z₀ s Z' s₄ ∧ (∀ p ∈ pin ++ Z', p.1 ∉ wr) ∧ StI k' s₄.heap := fun R' hR' hs => by
        have hp4 := hR'.pins
        refine ⟨n + 1 - (k + 1), by omega, k + 1, ws₂, Z₄, rfl, hs.1, hlt, e₂, hR'.weaken hs.2, hz₄, ?_, W.frame _ _ _ a1 fun b hb o e => ?_⟩
        · intro p hp hb
          rcases List.mem_append.mp hp with hp | hp
          · exact hd₂ p (by simp [hp]) hb
          · rw [← e₂] at hb
            obtain ⟨r, hr, e⟩ := List.mem_map.mp hb
            obtain ⟨_, _, _, q⟩ := hR'
            exact q.d2 r (by simp [hr]) p hp e
        · rcases W.foot b hb with q | ⟨ob, q⟩
          · rw [← e₂] at q
            obtain ⟨p, hp, rfl⟩ := List.mem_map.mp q
            have := hw₂ p hp
            rw [e] at this
            obtain rfl := Option.some.inj this
            exact hp4 p (by simp [hp])
          · have r1 := hst₂.pins (b, ob) (by simp [a3 _ (hz'.sub _ q)])
            simp only at r1
            rw [e] at r1
            obtain rfl := Option.some.inj r1
            exact hp4 (b, o) (by simp [hz₄.sub _ q])
      cases o with
      | next R' => obtain ⟨rfl, q2⟩ := q2; exact more R' q2 q1
      | cont R' => obtain ⟨rfl, q2⟩ := q2; exact more R' q2 q1
      | brk R' => obtain ⟨rfl, q2⟩ := q2; exact hR _ _ Z₄ s₄ q1 ⟨rfl, q2.unpin⟩ hz₄
      | ret d => obtain ⟨v, R', rfl, r, q2⟩ := q2; exact hR _ _ Z₄ s₄ q1 ⟨v, R', rfl, r, q2.unpin⟩ hz₄
  · have hkn : k = n := by omega
    subst hkn
    refine wpAny_mono (W.done s' (fun r s₁ => r = none ∧ ∃ h' tk, s₁ = { s' with heap := h', toks := tk } ∧ ∀ b o, b ∉ wr → s'.heap.get? b = some o → h'.get? b = some o) hI fun h' tk hk' => ⟨rfl, h', tk, rfl, hk'⟩) (fun r s₁ hr => ?_) fun _ _ x => x.elim
    obtain ⟨rfl, h', tk, rfl, hk'⟩ := hr
    refine wpAny_execs_nil (hR _ _ Z' _ (done hJ) ⟨rfl, ?_⟩ (hz'.trans .at))
    have := hst'.moved (ws' := []) (s' := { s' with heap := h', toks := tk }) (fun b o hb => hk' b o (hws' ▸ hb)) (fun p hp => nomatch hp) (fun p hp => by rw [hws']; exact hd' p hp) (fun _ h => h) fun p hp => .inl hp
    simpa using this
/-- a loop over a list or a tuple -/
theorem Ex1.forSeqJ (hF : FxOK C A F) (hh : A.handled = none) {target iter : PySem.Expr} {body : List PySem.Stmt} {pos : Pos} {d : PyData} {ds : List PyData} {Q : Out → Prop} (he : EvE C A (FS F ρ) F.env iter d) (hd : d = .list ds ∨ d = .tuple ds)
    (P : Nat → List Slot) (J : Nat → Prop) (j0 : J 0) (h0 : Sub (P 0) ρ) (turn : ∀ k x, ds[k]? = some x → J k → ∃ ρ', Asg C A F (P k) target x ρ' ∧ ExS C A F ρ' body (LoopJ (J (k + 1)) (P (k + 1)) Q)) (done : J ds.length → Q (.next (P ds.length)))
    (hs : ∀ x, foldedSetIterable iter F.env x = pure x := by intro _; rfl) : Ex1 C A F ρ (.For target iter body [] pos) Q := fun pin Z s K hst hK => by
  have turn' : ∀ k, k < ds.length → J k → ∃ ρ', Asg C A F (P k) target (ds.getD k .none) ρ' ∧ ExS C A F ρ' body (LoopJ (J (k + 1)) (P (k + 1)) Q) := fun k hk hJ => by
    have : ds[k]? = some (ds.getD k .none) := by rw [List.getD_eq_getElem?_getD, List.getElem?_eq_getElem hk]; rfl
    exact turn k _ this hJ
  refine wpAny_For (he Z s _ _ ⟨pin, hst⟩ fun v Z1 s1 x1 r1 => ?_) hs
  have hst1 := (hst.ext x1).weaken h0
  have H1 : HasL s1.heap Z1 := fun p hp => hst1.pins p (by simp [hp])
  have fresh := fresh_get s1.heap
  have off : ∀ p ∈ pin ++ Z1, p.1 ∉ [s1.heap.objs.size] := fun p hp q => by
    have := hst1.pins p hp
    rw [List.mem_singleton.mp q, fresh] at this; cases this
  rcases hd with rfl | rfl
  · cases r1 with
    | list hm hc hdt hi =>
      have hl : s1.heap.IsList _ _ := ⟨_, H1 _ hm, hc, _, hdt⟩
      refine wpAny_pyIter_list hl ?_
      have hne := Nat.ne_of_lt (Heap.lt_size (H1 _ hm))
      refine loop_coreJ hF (Itr.list hh hne hm hi) P J j0 (ws := [(s1.heap.objs.size, { cls := .type "list_iterator", data := .fields #[.ref _, .int 0 0] })]) (pin := pin) rfl
        (hst1.pinNew (push_keeps _) fresh (Heap.get?_push_size _ rfl)) off ⟨⟨_, Heap.get?_push_size _ rfl, rfl, rfl⟩, hl.at fun o e => Heap.get?_push_of_some _ e⟩ turn' done
        fun o fl Z' s' q1 q2 q3 => hK o fl Z' s' q1 q2 (x1.fwd.trans (.trans (.at (tk := s1.toks)) q3))
  · cases r1 with
    | tuple hm hc hdt hi =>
      have hl : s1.heap.IsTuple _ _ := ⟨_, H1 _ hm, hc, _, hdt⟩
      refine wpAny_pyIter_tuple hl ?_
      have hne := Nat.ne_of_lt (Heap.lt_size (H1 _ hm))
      refine loop_coreJ hF (Itr.tuple hh hne hm hi) P J j0 (ws := [(s1.heap.objs.size, { cls := .type "tuple_iterator", data := .fields #[.ref _, .int 0 0] })]) (pin := pin) rfl
        (hst1.pinNew (push_keeps _) fresh (Heap.get?_push_size _ rfl)) off ⟨⟨_, Heap.get?_push_size _ rfl, rfl, rfl⟩, hl.at fun o e => Heap.get?_push_of_some _ e⟩ turn' done
        fun o fl Z' s' q1 q2 q3 => hK o fl Z' s' q1 q2 (x1.fwd.trans (.trans (.at (tk := s1.toks)) q3))

end
namespace V
section
variable {C : Cx} {A : Around} {F : Fx} {k : Nat} {ns gs : List Str} {ρ ρ' : List Slot}
theorem forSeqJ (W : Wk C A F k ns gs) {target iter : PySem.Expr} {body : List PySem.Stmt} {pos : Pos} {d : PyData} {ds : List PyData} {Q : Out → Prop} (P : Nat → List Slot) (J : Nat → Prop) (j0 : J 0) (he : EvE C A (FS F ρ) F.env iter d) (hd : d = .list ds ∨ d = .tuple ds)
    (h0 : Sub (P 0) ρ) (turn : ∀ k x, ds[k]? = some x → J k → ∃ ρ', Asg C A F (P k) target x ρ' ∧ ExS C A F ρ' body (LoopJ (J (k + 1)) (P (k + 1)) Q)) (done : J ds.length → Q (.next (P ds.length)))
    (hs : ∀ x, foldedSetIterable iter F.env x = pure x := by intro _; with_unfolding_all rfl) (h9 : k ≤ 100 := by decide) : Ex1 C A F ρ (.For target iter body [] pos) Q := Ex1.forSeqJ W.hF (W.hh h9) he hd P J j0 h0 turn done hs
end
end V
end Mine

namespace Mine
open PySem PySem.W PySem.Spec PySem.Calls PyProof.Rows

theorem Rps.drop {Z : Led} : ∀ {vs : List Value} {ds : List PyData} (k : Nat), Rps Z vs ds → Rps Z (vs.drop k) (ds.drop k)
  | _, _, 0, h => h
  | _, _, _ + 1, .nil => .nil
  | _, _, k + 1, .cons _ r => Rps.drop k r
theorem Rps.take {Z : Led} : ∀ {vs : List Value} {ds : List PyData} (k : Nat), Rps Z vs ds → Rps Z (vs.take k) (ds.take k)
  | _, _, 0, _ => .nil
  | _, _, _ + 1, .nil => .nil
  | _, _, k + 1, .cons h r => .cons h (Rps.take k r)
/-! ## Raising -/
noncomputable abbrev frs (l : List Env) : List Addr := l.filterMap (·.frame)

/-- an exception of class c flies into the frames l; the heap only grew, but for the frames' slots -/
noncomputable def Thr (l : List Env) (c e : Addr) (s s' : Shared) : Prop :=
  (∃ h' tk, s' = { s with heap := h', toks := tk }) ∧ s.heap.UpToSlots s'.heap ∧
  ∃ B a0, Heap.FlyingW B l e (.ref c) a0 s'.heap ∧ ∀ b o, s.heap.get? b = some o → b ∉ frs l → B.get? b = some o

/-- the contract of a def that raises -/
noncomputable def FnRA (C : Cx) (f : Addr) (k : Nat) (ds : List PyData) (c : Addr) : Prop :=
  ∀ A Z s vs l (R : Result → Shared → Prop), Ground C A Z s → A.frames = some l → Room A k → A.handled = none → Rps Z vs ds →
    (∀ e s', Thr l c e s s' → R (.error (.ref e)) s') → codeAny (model C.prog C.w) A (.call (.ref f) ⟨vs, []⟩) R s

/-- within the frame: made here, or come from below -/
noncomputable def Fly (F : Fx) (c e : Addr) (s s' : Shared) : Prop :=
  ((∃ us, Heap.MadeExcOf s.heap s'.heap e (.ref c) us) ∧ ∃ h' tk, s' = { s with heap := h', toks := tk }) ∨ Thr (F.env :: F.outer) c e s s'

section
variable (C : Cx) (A : Around) (F : Fx) (ρ : List Slot)
/-- the expression's evaluation is left by an exception of class c, which came from below -/
noncomputable def EvX (e : PySem.Expr) (c : Addr) : Prop :=
  ∀ pin Z s (K : Value → Shared → Prop) (E : Value → Shared → Prop), FSt F ρ pin Z s → (∀ x Z₁ s₁ s', FSt F ρ pin Z₁ s₁ → Fwd Z s Z₁ s₁ → Thr (F.env :: F.outer) c x s₁ s' → E (.ref x) s') →
    wpAny (model C.prog C.w) A (eval e F.env) K E s
noncomputable def ExX (ss : List PySem.Stmt) (c : Addr) : Prop :=
  ∀ pin Z s (K : Flow → Shared → Prop) (E : Value → Shared → Prop), FSt F ρ pin Z s → (∀ x ρ₁ Z₁ s₁ s', FSt F ρ₁ pin Z₁ s₁ → Fwd Z s Z₁ s₁ → Fly F c x s₁ s' → E (.ref x) s') →
    wpAny (model C.prog C.w) A (execs ss F.env) K E s
noncomputable def Ex1X (st : PySem.Stmt) (c : Addr) : Prop :=
  ∀ pin Z s (K : Flow → Shared → Prop) (E : Value → Shared → Prop), FSt F ρ pin Z s → (∀ x ρ₁ Z₁ s₁ s', FSt F ρ₁ pin Z₁ s₁ → Fwd Z s Z₁ s₁ → Fly F c x s₁ s' → E (.ref x) s') →
    wpAny (model C.prog C.w) A (exec st F.env) K E s
end

section
variable {C : Cx} {A : Around} {F : Fx} {ρ ρ' : List Slot} {c : Addr}

theorem EvX.call (hF : FxOK C A F) {k : Nat} (hr : Room A k) (hh : A.handled = none) {x : Str} {np pos : Pos} {e : PySem.Expr} {es : List PySem.Expr} {f : Addr} {ds : List PyData}
    (hn : NmV C A (FS F ρ) F.env x (.ref f)) (hfn : IsFn C f) (ha : EvEs C A (FS F ρ) F.env (e :: es) ds) (hf : FnRA C f k ds c)
    (he : starEach (e :: es) F.env = (false, eval e F.env) :: starEach es F.env := by rfl) : EvX C A F ρ (.Call (.Name x np) (e :: es) [] pos) c := fun pin Z s K E hs hE => by
  obtain ⟨oc, od, fd, osl, hl⟩ := hfn
  refine Call_ (hn np Z s _ E ⟨pin, hs⟩ ?_)
  refine callWith_def (o := ⟨oc, od, .func fd, osl⟩) rfl (ha pos Z s _ E ⟨pin, hs⟩ fun vs Z1 s1 x1 r1 => ?_) he
  have g := (hF.okay ρ).call ⟨pin, hs.ext x1⟩
  refine ⟨?_, wpAny_call (hf A Z1 s1 vs _ _ g hF.hA hr hh r1 fun e' s' ht => hE e' Z1 s1 s' (hs.ext x1) x1.fwd ht)⟩
  obtain ⟨_, _, _, _, _, _, _, G⟩ := g
  exact G.F.keep _ _ (G.X _ _ hl)
theorem EvX.binL {op : PySem.Operator} {l r : PySem.Expr} {pos : Pos} (h : EvX C A F ρ l c) : EvX C A F ρ (.BinOp l op r pos) c := fun pin Z s K E hs hE =>
  wpAny_BinOp (h pin Z s _ E hs hE)

theorem Ex1X.expr {e : PySem.Expr} {pos : Pos} (h : EvX C A F ρ e c) (hi : interactive F.env = false := by rfl) (hs : swapsWith e none pos.line F.env = pure false := by rfl) : Ex1X C A F ρ (.Expr e pos) c := fun pin Z s K E hst hE =>
  wpAny_Expr_any (h pin Z s _ _ hst fun x Z₁ s₁ s' h1 h2 h3 => hE x ρ Z₁ s₁ s' h1 h2 (.inr h3)) hi hs
theorem Ex1X.assign {x : Str} {px pos : Pos} {e : PySem.Expr} (h : EvX C A F ρ e c) (hs : swapsWith e (some (.Name x px)) pos.line F.env = pure false := by rfl) : Ex1X C A F ρ (.Assign [.Name x px] e pos) c := fun pin Z s K E hst hE =>
  wpAny_Assign_Name (h pin Z s _ _ hst fun x Z₁ s₁ s' h1 h2 h3 => hE x ρ Z₁ s₁ s' h1 h2 (.inr h3)) hs
theorem Ex1X.ret {e : PySem.Expr} {pos : Pos} (h : EvX C A F ρ e c) : Ex1X C A F ρ (.Return (some e) pos) c := fun pin Z s K E hst hE =>
  wpAny_Return_some (h pin Z s _ _ hst fun x Z₁ s₁ s' h1 h2 h3 => hE x ρ Z₁ s₁ s' h1 h2 (.inr h3))
theorem Ex1X.ite {test : PySem.Expr} {body orelse : List PySem.Stmt} {pos : Pos} {b : Bool} (hb : EvB C A (FS F ρ) F.env test b) (ht : b = true → ExX C A F ρ body c) (hf : b = false → ExX C A F ρ orelse c) :
    Ex1X C A F ρ (.If test body orelse pos) c := fun pin Z s K E hst hE => by
  refine wpAny_If (hb Z s _ _ ⟨pin, hst⟩ fun Z' s' x => ?_)
  cases b with
  | true => exact ht rfl pin Z' s' K E (hst.ext x) fun y ρ₁ Z₁ s₁ s'' h1 h2 h3 => hE y ρ₁ Z₁ s₁ s'' h1 (x.fwd.trans h2) h3
  | false => exact hf rfl pin Z' s' K E (hst.ext x) fun y ρ₁ Z₁ s₁ s'' h1 h2 h3 => hE y ρ₁ Z₁ s₁ s'' h1 (x.fwd.trans h2) h3
/-- raise of a class of the program's own -/
theorem Ex1X.raise (hF : FxOK C A F) (hh : A.handled = none) {x : Str} {np cpos pos : Pos} {e : PySem.Expr} {d : PyData} (hn : NmV C A (FS F ρ) F.env x (.ref c)) (hg : Gl C x c) (hx : x ∈ C.exs) (ha : EvEs C A (FS F ρ) F.env [e] [d])
    (he : starEach [e] F.env = (false, eval e F.env) :: starEach [] F.env := by with_unfolding_all rfl) : Ex1X C A F ρ (.Raise (some (.Call (.Name x np) [e] [] cpos)) none pos) c := fun pin Z s K E hst hE => by
  obtain ⟨c', O⟩ := hF.TB.own x hx
  obtain rfl : c' = c := by
    have h1 := O.bound
    rw [mg_of hF.XB hF.TB.top.g hg] at h1
    cases h1; rfl
  obtain ⟨tl, N, nm, q, bs, hdct, sn, sub, ab, col, dd, k0, k1, k2, k3, k5, mN, hC, hN, hni, T⟩ := O.own.obj
  refine wpAny_Raise_call_subU (C := c') (nm := nm) (q := q) (N := N) (bs := bs) (bm := tl) (hdct := hdct) (sn := sn) (sub := sub) (ab := ab) (col := col) (dd := dd) (k0 := k0) (k1 := k1) (k2 := k2) (k3 := k3) (k5 := k5)
    PySem.F.excBase_ValueError (by decide) PySem.F.excBase_ValueError (mN := mN) (T.hasType PySem.F.excBase_ValueError.hasBase) hh (by rw [he]; rfl) hni (hn np Z s _ E ⟨pin, hst⟩ ⟨rfl, ?_⟩)
  have h := ha cpos Z s (fun vs s₂ => ∃ Z', Ext Z s Z' s₂ ∧ vs.length = 1) E ⟨pin, hst⟩ fun vs Z' s' x r => ⟨Z', x, by rw [r.length]; rfl⟩
  rw [he] at h ⊢
  refine Calls.evalArgs_plain (wpAny_mono h (fun vs s₂ h₂ => ?_) fun _ _ y => y)
  obtain ⟨Z', x', hl⟩ := h₂
  have kp : ∀ b o, F.base.get? b = some o → s₂.heap.get? b = some o := fun b o e => by
    obtain ⟨m, muts, oa, hI⟩ := hst
    exact x'.keep b o (hI.fr.keep b o (hF.B.stays b o e))
  exact ⟨rfl, by rw [hl, sizeLine_eq]; omega, kp _ _ hC, hN.keeps kp, T.keeps kp, fun h' e' hm => hE e' ρ Z' s₂ _ (hst.ext x') x'.fwd (.inl ⟨⟨_, hm⟩, h', s₂.toks, rfl⟩)⟩

theorem ExX.here {st : PySem.Stmt} {rest : List PySem.Stmt} (h : Ex1X C A F ρ st c) : ExX C A F ρ (st :: rest) c := fun pin Z s K E hst hE =>
  wpAny_execs_cons (h pin Z s _ E hst hE)
/-- what is asked behind a statement ahead of the raise -/
noncomputable def ThenX (C : Cx) (A : Around) (F : Fx) (rest : List PySem.Stmt) (c : Addr) : Out → Prop
  | .next ρ => ExX C A F ρ rest c
  | _ => False
theorem ExX.cons {st : PySem.Stmt} {rest : List PySem.Stmt} (h : Ex1 C A F ρ st (ThenX C A F rest c)) : ExX C A F ρ (st :: rest) c := fun pin Z s K E hst hE => by
  refine wpAny_execs_cons (wpAny_mono (h pin Z s (fun fl s' => ∃ ρ' Z', fl = .next ∧ ExX C A F ρ' rest c ∧ FSt F ρ' pin Z' s' ∧ Fwd Z s Z' s') hst fun o fl Z' s' hq ho hz => ?_) (fun fl s' q => ?_) fun _ _ y => y.elim)
  · cases o with
    | next ρ' => obtain ⟨rfl, ho⟩ := ho; exact ⟨ρ', Z', rfl, hq, ho, hz⟩
    | cont ρ' => exact hq.elim
    | brk ρ' => exact hq.elim
    | ret d => exact hq.elim
  · obtain ⟨ρ', Z', rfl, h1, h2, h3⟩ := q
    exact h1 pin Z' s' K E h2 fun x ρ₁ Z₁ s₁ s'' a1 a2 a3 => hE x ρ₁ Z₁ s₁ s'' a1 (h3.trans a2) a3

theorem frs_cons (hF : FxOK C A F) {b : Addr} (hb : b ∈ frs (F.env :: F.outer)) : b = F.L ∨ b ∈ frs F.outer := by
  obtain ⟨env, he, hf⟩ := List.mem_filterMap.mp hb
  rcases List.mem_cons.mp he with rfl | he
  · rw [hF.hf] at hf; exact .inl (Option.some.inj hf).symm
  · exact .inr (List.mem_filterMap.mpr ⟨env, he, hf⟩)
theorem FIn.noL {pin Z muts : Led} {s : Shared} {m : Str → Option Value} {oa : Nat → Addr} (h : FIn F ρ pin Z s m muts oa) : F.h₀.get? F.L = none := by
  cases q : F.h₀.get? F.L with
  | none => rfl
  | some o => exact absurd (Nat.lt_of_lt_of_le (Heap.lt_size q) h.fr.above) (Nat.lt_irrefl _)

/-- a def whose body raises -/
theorem FnRA.enters {f : Addr} {body : List PySem.Stmt} {scope : Scope} {ds : List PyData} {ns : List Str} {k : Nat} (hE : Entry C f ds body ns scope ρ k)
    (hb : ∀ A F, FxOK C A F → F.ns = ns → F.env.scope = scope → Room A k → A.handled = none → A.units + 200 < cLine → ExX C A F ρ body c) : FnRA C f (k + 1) ds c := by
  intro A Z s vs l R hg hl hroom hh hr hR
  refine hE A Z s vs R hg hroom hr fun F s₁ hF hn hs hroom' hu ent hst => ?_
  refine hb _ F hF hn hs hroom' hh hu [] Z s₁ _ _ hst fun e ρ₁ Z₁ s₂ s' hst₂ hz hfly => ?_
  obtain rfl : F.outer = l := Option.some.inj (ent.out.symm.trans hl)
  obtain ⟨m, muts, oa, hI⟩ := hst₂
  have keep := ent.keep hI hz.sub
  have off : ∀ b o, s.heap.get? b = some o → b ∉ frs F.outer → b ∉ frs (F.env :: F.outer) := fun b o hb hnb hm => by
    rcases frs_cons hF hm with rfl | q
    · rw [ent.new] at hb; cases hb
    · exact hnb q
  obtain ⟨h2, t2, e2⟩ := ent.go hz
  rcases hfly with ⟨⟨us, hm⟩, h3, t3, e3⟩ | ⟨⟨h3, t3, e3⟩, hup, B, a0, hfl, hB⟩
  · have K' := pushX hF.B hI.fr hF.hf hF.hk
    refine wpAny_leaves_madeW (base := hideAll s₂.heap (frs (F.env :: F.outer))) hF.hA hF.hf (fun b o q => of_hideAll _ q) (funFrames_hide K'.frames fun env he b hb => List.mem_filterMap.mpr ⟨env, he, hb⟩) hm fun h' t x1 x2 x3 x4 => ?_
    refine hR e _ ⟨⟨h', t3, by rw [e3, e2]⟩, ((Heap.UpToSlots.of_keeps keep).trans (Heap.UpToSlots.of_keeps hm.keeps)).trans x4, _, _, x1, fun b o hb hnb => hideAll_get _ (keep b o hb) (off b o hb hnb)⟩
  · refine wpAny_leaves_onW hF.hA hF.hf hfl fun h' x1 x2 => ?_
    exact hR e _ ⟨⟨h', t3, by rw [e3, e2]⟩, ((Heap.UpToSlots.of_keeps keep).trans hup).trans x2, B, a0, x1, fun b o hb hnb => hB b o (keep b o hb) (off b o hb hnb)⟩

/-! ## Catching -/
/-- the frame again, its ground turned in the outer frames' slots -/
noncomputable abbrev Fx.on (F : Fx) (g : Heap) : Fx := { F with h₀ := g }

/-- the suite's outcome, its name gone -/
noncomputable def HQ (ns : List Str) (n : Str) (Q : Out → Prop) : Out → Prop
  | .ret d => Q (.ret d)
  | .cont ρ => ∃ i ρ', Upd ns ρ n .undef i ρ' ∧ Q (.cont ρ')
  | _ => False

theorem FSt.forget {pin Z : Led} {s : Shared} (h : FSt F ρ pin Z s) : FSt F [] pin Z s := by
  obtain ⟨m, muts, oa, h⟩ := h
  exact ⟨m, muts, oa, h.fr, h.nw, h.d1, h.d2, (fun i x sl _ hs => by simp at hs), (fun i j x y ds es _ _ hi => by simp at hi), h.cells⟩

/-- the handler's name goes -/
theorem name_goes (hF : FxOK C A F) {n : Str} {hp : Pos} {pin Z : Led} {s : Shared} (hst : FSt F ρ pin Z s) (hk : F.env.kindOf n = some .local) (hρ : ρ' = [] ∨ ∃ i, Upd F.ns ρ n .undef i ρ')
    {K : Unit → Shared → Prop} {E : Value → Shared → Prop} (hK : ∀ s', FSt F ρ' pin Z s' → Fwd Z s Z s' → K () s') : wpAny (model C.prog C.w) A (do bindName F.env n .none; unbindBehindTheSuite F.env n hp) K E s := by
  obtain ⟨m, muts, oa, h⟩ := hst
  refine wpAny_nameGoes_keeps hk (hF.hl ▸ h.fr.ns) (by rw [hF.hk]; rfl) fun h' v hn hs => hK _ ⟨fun x => if x = n then v else m x, muts, oa, h.fr.set (hF.hl ▸ hn) (hF.hl ▸ hs), h.nw.set (hF.hl ▸ hs), h.d1, h.d2, fun j y sl hj hs' => ?_, fun i j x y ds es hx hy hi hj => ?_, h.cells⟩ .at
  · rcases hρ with rfl | ⟨i, hu⟩
    · simp at hs'
    obtain ⟨u1, u2, u3⟩ := hu.at
    by_cases hji : j = i
    · subst hji; rw [u2] at hs'; cases hs'; trivial
    · rw [u3 j hji] at hs'
      have hy : y ≠ n := fun e => hji (nodup_idx hF.nd (e ▸ hj) u1)
      have old := h.slots j y sl hj hs'
      have at' : ∀ w, At F.env m muts y w → At F.env (fun z => if z = n then v else m z) muts y w := fun w q => by
        rcases q with ⟨q1, q2⟩ | q
        · exact .inl ⟨q1, by simp only [if_neg hy]; exact q2⟩
        · exact .inr q
      cases sl with
      | undef => trivial
      | dat d => obtain ⟨w, q1, q2⟩ := old; exact ⟨w, at' w q1, q2⟩
      | own ds => obtain ⟨q1, q2⟩ := old; exact ⟨at' _ q1, q2⟩
  · rcases hρ with rfl | ⟨k, hu⟩
    · simp at hi
    obtain ⟨u1, u2, u3⟩ := hu.at
    have ne : ∀ (j : Nat) (es : List PyData), ρ'[j]? = some (Slot.own es) → j ≠ k := fun j es hj q => by subst q; rw [u2] at hj; cases hj
    rw [u3 i (ne i ds hi)] at hi
    rw [u3 j (ne j es hj)] at hj
    exact h.inj i j x y ds es hx hy hi hj

theorem catch_at (hF : FxOK C A F) {x c' : Addr} {xt n : Str} {np hp : Pos} {b₀ : PySem.Stmt} {suite : List PySem.Stmt} {ρ₂ : List Slot} {i : Nat} {pin Z : Led} {s s' : Shared} {Q : Out → Prop}
    (hst : FSt F ρ pin Z s) (ht : Thr (F.env :: F.outer) c x s s') (hg : Gl C xt c') (hxk : F.env.kindOf xt = some .globalImplicit) (hxd : (xt == ("__debug__" : Str)) = false) (hm : exmOne C.K (.ref c) (.ref c') = some true)
    (hk : F.env.kindOf n = some .local) (hu : Upd F.ns ρ n (.dat (excD c)) i ρ₂)
    (hsuite : ∀ F', FxOK C (A.mark (some (.ref x))) F' → F'.env = F.env → F'.ns = F.ns → ExS C (A.mark (some (.ref x))) F' ρ₂ (b₀ :: suite) (HQ F.ns n Q))
    {K : Flow → Shared → Prop} {E : Value → Shared → Prop} (hK : ∀ g o fl Z' s'', KtsTurn (frs F.outer) F.h₀ g → FxOK C A (F.on g) → Q o → OutAt (F.on g) pin o fl Z' s'' → Fwd Z s Z' s'' → K fl s'') :
    wpAny (model C.prog C.w) A (noteFrame (.ref x) F.env) (fun _ s₂ => wpAny (model C.prog C.w) A (setFlight (.ref x) none) (fun _ s₃ =>
      wpAny (model C.prog C.w) A (handleBy (.ref x) F.env [.ExceptHandler (some (.Name xt np)) (some n) (b₀ :: suite) hp]) K E s₃) E s₂) E s' := by
  obtain ⟨⟨h₁, t₁, e₁⟩, hup, B, a0, hfl, hB⟩ := ht
  obtain ⟨m, muts, oa, hI⟩ := hst
  have offO : ∀ b o, F.h₀.get? b = some o → b ∉ frs F.outer → b ∉ frs (F.env :: F.outer) := fun b o e nb hm => by
    rcases frs_cons hF hm with rfl | q
    · rw [hI.noL] at e; cases e
    · exact nb q
  have offB : ∀ b o, F.base.get? b = some o → b ∉ frs F.outer := fun b o e hm => by rw [(hF.B.frames.mem hm).1] at e; cases e
  have baseB : ∀ b o, F.base.get? b = some o → B.get? b = some o := fun b o e => hB b o (hI.fr.keep b o (hF.B.stays b o e)) (offO b o (hF.B.stays b o e) (offB b o e))
  refine wpAny_looks_onW hF.hA hF.hf hfl fun h₄ held₄ up₄ => ?_
  refine wpAny_landsW held₄ fun h₅ fl₅ up₅ => ?_
  refine wpAny_handleBy_cons (codeAny_handlers_test ?_) (by intro q; cases q)
  have k₅ : ∀ b o, F.base.get? b = some o → h₅.get? b = some o := fun b o e => fl₅.1 b o (baseB b o e)
  have T₅ := hF.TB.top.keeps k₅
  have X₅ : C.K.In h₅ := hF.XB.keeps k₅
  refine Name_function_global hF.hk hxk (loadGlobal_global (hF.hg ▸ T₅.g) (mg_of X₅ T₅.g hg) ?_) hxd
  have LT : Looks (model C.prog C.w) h₅ (typeOf (.ref x)) (.ref c) := by
    obtain ⟨ob, hob, hc⟩ := fl₅.there
    rw [← hc]
    exact (Looks.ld hob).andThen .now
  refine (exm_one X₅ LT hm).here ?_
  refine codeAny_handlers_suite_as ?_
  refine lands_againW fl₅ fun h₆ fl₆ up₆ => ?_
  have up : s.heap.UpToSlots h₆ := ((hup.trans up₄).trans up₅).trans up₆
  obtain ⟨T, S⟩ := kts_turn_at (h := h₆) (fs := frs F.outer) (g := F.h₀)
    (fun b hb => by obtain ⟨_, o, ho, _⟩ := hF.B.frames.mem hb; exact ⟨o, ho⟩)
    (fun b o e nb => fl₆.1 b o (hB b o (hI.fr.keep b o e) (offO b o e nb)))
    (fun b o e hb => by
      obtain ⟨_, o', ho', hd⟩ := hF.B.frames.mem hb
      rw [e] at ho'; cases ho'
      exact up b o (hI.fr.keep b o e) hd)
  generalize ktsHeap h₆ (frs F.outer) F.h₀ = g at T S
  have F₆ : Fr g F.L h₆ m := ⟨up.ns hI.fr.ns, S, by rw [T.size]; exact hI.fr.above⟩
  have B₆ : Below F.A₀ F.base F.outer g := ⟨hF.B.stack, fun b o e => T.other b o (hF.B.stays b o e) (offB b o e), hF.B.frames.of_keeps fun b o e _ => by
    obtain ⟨sl, hs⟩ := T.up e
    exact ⟨_, hs, rfl⟩⟩
  have hF₆ : FxOK C A (F.on g) := ⟨B₆, hF.XB, hF.TB, hF.hA, hF.hf, hF.hl, hF.hk, hF.hg, hF.hb, hF.nd, hF.kinds, hF.cinj⟩
  have hF₇ : FxOK C (A.mark (some (.ref x))) (F.on g) := ⟨B₆, hF.XB, hF.TB, hF.hA, hF.hf, hF.hl, hF.hk, hF.hg, hF.hb, hF.nd, hF.kinds, hF.cinj⟩
  obtain ⟨oe, ws, hoe, hoec, hoed, hoe0⟩ := fl₆.first
  have newx : s.heap.get? x = none := by
    cases q : s.heap.get? x with
    | none => rfl
    | some o =>
      by_cases hm : x ∈ frs (F.env :: F.outer)
      · have hd : ∀ vs, o.data ≠ .fields vs := by
          rcases frs_cons hF hm with rfl | hm
          · obtain ⟨oL, es, ep, hL, hd, _⟩ := hI.fr.ns
            rw [q] at hL; cases hL
            intro vs e; rw [hd] at e; cases e
          · obtain ⟨_, o', ho', hd⟩ := hF.B.frames.mem hm
            have := hI.fr.keep _ _ ho'
            rw [q] at this; cases this
            exact hd
        obtain ⟨sl, hs⟩ := up x o q hd
        rw [hoe] at hs; cases hs
        exact absurd hoed (hd _)
      · have := hB x o q hm
        rw [hfl.2.1] at this; cases this
  have off : ∀ p ∈ pin ++ (muts ++ Z), p.1 ∉ frs (F.env :: F.outer) := fun p hp hm => by
    have q := hI.nw p hp
    rcases frs_cons hF hm with e | hm
    · exact q.2.1 e
    · obtain ⟨_, o', ho', _⟩ := hF.B.frames.mem hm
      rw [q.2.2] at ho'; cases ho'
  have nwx : F.h₀.get? x = none := none_of_keep hI.fr.keep newx
  have hI₆ : FIn (F.on g) ρ pin ((x, oe) :: Z) { s' with heap := h₆ } m muts oa := by
    refine ⟨F₆, fun p hp => ?_, fun p hp q hq => ?_, fun p hp q hq => ?_, fun j y sl hj hs => (hI.slots j y sl hj hs).ext fun p hp => .tail _ hp, hI.inj, hI.cells⟩
    · have old : p ∈ pin ++ (muts ++ Z) ∨ p = (x, oe) := by
        simp only [List.mem_append, List.mem_cons] at hp ⊢
        rcases hp with h | h | h | h
        · exact .inl (.inl h)
        · exact .inl (.inr (.inl h))
        · exact .inr h
        · exact .inl (.inr (.inr h))
      rcases old with hp | rfl
      · have q := hI.nw p hp
        exact ⟨fl₆.1 _ _ (hB _ _ q.1 (off p hp)), q.2.1, T.none_ _ q.2.2⟩
      · refine ⟨hoe, fun e => ?_, T.none_ _ nwx⟩
        obtain ⟨oL, _, _, hL, _⟩ := hI.fr.ns
        simp only at e
        rw [e, hL] at newx; cases newx
    · simp only [List.mem_append, List.mem_cons] at hq
      rcases hq with h | rfl | h
      · exact hI.d1 p hp q (by simp [h])
      · intro e
        have := (hI.nw p (by simp [hp])).1
        simp only at e
        rw [e, newx] at this; cases this
      · exact hI.d1 p hp q (by simp [h])
    · rcases List.mem_cons.mp hq with rfl | hq
      · intro e
        have := (hI.nw p (by simp [hp])).1
        simp only at e
        rw [e, newx] at this; cases this
      · exact hI.d2 p hp q hq
  refine store_dat hF₇ ⟨m, muts, oa, hI₆⟩ hu (.exc (.head _) hoec) fun s₇ hst₇ w₇ => ?_
  refine wpAny_mono (hsuite (F.on g) hF₇ rfl rfl pin _ s₇ (fun fl s₈ => ∃ o Z₈, HQ F.ns n Q o ∧ OutAt (F.on g) pin o fl Z₈ s₈ ∧ Fwd ((x, oe) :: Z) s₇ Z₈ s₈) hst₇ fun o fl Z' s'' q1 q2 q3 => ⟨o, Z', q1, q2, q3⟩) (fun fl s₈ q => ?_) fun _ _ y => y.elim
  obtain ⟨o, Z₈, q1, q2, q3⟩ := q
  have hz : Fwd Z s Z₈ s₈ := by
    obtain ⟨ha, ta, ea⟩ := w₇.same
    obtain ⟨hb, tb, eb⟩ := q3.same
    exact ⟨⟨hb, tb, by rw [eb, ea, e₁]⟩, fun p hp => q3.sub p (.tail _ hp)⟩
  cases o with
  | next ρ₃ => exact q1.elim
  | brk ρ₃ => exact q1.elim
  | ret d =>
    obtain ⟨v, ρ₃, rfl, r, q2⟩ := q2
    exact name_goes hF₆ q2 hk (ρ' := []) (.inl rfl) fun s₉ h9 w9 => hK g _ _ Z₈ s₉ T hF₆ q1 ⟨v, [], rfl, r, h9⟩ (hz.trans w9)
  | cont ρ₃ =>
    obtain ⟨rfl, q2⟩ := q2
    obtain ⟨j, ρ₄, hu', hq⟩ := q1
    exact name_goes hF₆ q2 hk (.inr ⟨j, hu'⟩) fun s₉ h9 w9 => hK g _ _ Z₈ s₉ T hF₆ hq ⟨rfl, h9⟩ (hz.trans w9)
end

/-! ## A def that catches, called from the law's own frame -/
structure ExtC (L : Addr) (Z : Led) (s : Shared) (Z' : Led) (s' : Shared) : Prop where
  same : ∃ h' tk, s' = { s with heap := h', toks := tk }
  keep : ∀ b o, b ≠ L → s.heap.get? b = some o → s'.heap.get? b = some o
  self : ∀ o, s.heap.get? L = some o → ∃ sl, s'.heap.get? L = some { o with slots := sl }
  sub : ∀ p ∈ Z, p ∈ Z'
  new : ∀ p ∈ Z', p ∈ Z ∨ (s.heap.get? p.1 = none ∧ s'.heap.get? p.1 = some p.2)
noncomputable def FnC (C : Cx) (f : Addr) (k : Nat) (ds : List PyData) (d : PyData) : Prop :=
  ∀ A A₀ base h₀ L m env Z s vs (R : Result → Shared → Prop), Gnd C A A₀ base [] h₀ L m env [] Z s → Room A k → A.handled = none → Rps Z vs ds →
    (∀ v Z' s', ExtC L Z s Z' s' → Rp Z' v d → R (.ok (.ret v)) s') → codeAny (model C.prog C.w) A (.call (.ref f) ⟨vs, []⟩) R s

section
variable {C : Cx} {A : Around} {F : Fx} {ρ ρ' : List Slot} {c : Addr}
theorem FIn.extC {pin Z Z' muts : Led} {s s' : Shared} {m : Str → Option Value} {oa : Nat → Addr} (h : FIn F ρ pin Z s m muts oa) (x : ExtC F.L Z s Z' s') : FIn F ρ pin Z' s' m muts oa := by
  have hk : ∀ p ∈ pin ++ (muts ++ Z), s'.heap.get? p.1 = some p.2 := fun p hp => x.keep _ _ (h.nw p hp).2.1 (h.nw p hp).1
  obtain ⟨oL, es, ep, hL, hd, hx⟩ := h.fr.ns
  obtain ⟨sl, hsl⟩ := x.self _ hL
  have live : ∀ p ∈ Z', p ∉ Z → s.heap.get? p.1 = none := fun p hp hz => (x.new p hp).elim (fun q => absurd q hz) (·.1)
  refine ⟨⟨⟨_, es, ep, hsl, hd, hx⟩, fun b o e => x.keep b o (fun q => ?_) (h.fr.keep b o e), h.fr.above⟩, fun p hp => ?_, fun p hp q hq => ?_, fun p hp q hq => ?_, fun i y sl hi hs => (h.slots i y sl hi hs).ext x.sub, h.inj, h.cells⟩
  · rw [q, h.noL] at e; cases e
  · rcases List.mem_append.mp hp with hp | hp
    · exact ⟨hk p (by simp [hp]), (h.nw p (by simp [hp])).2⟩
    · rcases List.mem_append.mp hp with hp | hp
      · exact ⟨hk p (by simp [hp]), (h.nw p (by simp [hp])).2⟩
      · rcases x.new p hp with q | ⟨q1, q2⟩
        · exact ⟨hk p (by simp [q]), (h.nw p (by simp [q])).2⟩
        · refine ⟨q2, fun e => ?_, none_of_keep h.fr.keep q1⟩
          rw [e, hL] at q1; cases q1
  · rcases List.mem_append.mp hq with hq | hq
    · exact h.d1 p hp q (by simp [hq])
    · rcases x.new q hq with r | ⟨r1, _⟩
      · exact h.d1 p hp q (by simp [r])
      · intro e
        have := (h.nw p (by simp [hp])).1
        rw [e, r1] at this; cases this
  · rcases x.new q hq with r | ⟨r1, _⟩
    · exact h.d2 p hp q r
    · intro e
      have := (h.nw p (by simp [hp])).1
      rw [e, r1] at this; cases this

/-- try, caught: the body is one call -/
theorem FnC.enters {f : Addr} {scope : Scope} {ds : List PyData} {ns : List Str} {k : Nat} {d : PyData} {e : PySem.Expr} {ep np hp tp : Pos} {xt n : Str} {c' : Addr} {b₀ : PySem.Stmt} {suite rest : List PySem.Stmt} {ρ₂ : List Slot} {i : Nat}
    (hE : Entry C f ds (.Try [.Expr e ep] [.ExceptHandler (some (.Name xt np)) (some n) (b₀ :: suite) hp] [] [] tp :: rest) ns scope ρ k)
    (hg : Gl C xt c') (hm : exmOne C.K (.ref c) (.ref c') = some true) (hxk : scope.names.lookup xt = some .globalImplicit) (hxd : (xt == ("__debug__" : Str)) = false) (hk : scope.names.lookup n = some .local)
    (hu : Upd ns ρ n (.dat (excD c)) i ρ₂) (hd : d ≠ .none)
    (hb : ∀ A F, FxOK C A F → F.ns = ns → F.env.scope = scope → Room A k → A.handled = none → A.units + 200 < cLine → EvX C A F ρ e c ∧ swapsWith e none ep.line F.env = pure false)
    (hs : ∀ A F, FxOK C A F → F.ns = ns → F.env.scope = scope → Room A k → A.units + 200 < cLine → ExS C A F ρ₂ (b₀ :: suite) (RetQ d)) : FnC C f (k + 1) ds d := by
  intro A A₀ base h₀ L m env Z s vs R G hroom hh hr hR
  refine hE A Z s vs R ⟨A₀, base, [], h₀, L, m, env, G⟩ hroom hr fun F s₁ hF hn hsc hroom' hu' ent hst => ?_
  obtain ⟨hbe, hsw⟩ := hb _ F hF hn hsc hroom' hh hu'
  have hout : F.outer = [env] := Option.some.inj (ent.out.symm.trans G.hA)
  have frL : frs F.outer = [L] := by rw [hout]; simp [frs, G.hf]
  refine wpAny_execs_cons (wpAny_Try_except ?_)
  refine wpAny_execs_cons (wpAny_Expr_any (hbe [] Z s₁ _ _ hst fun x Z₁ s₂ s' h1 h2 h3 => ?_) (noInter hF.hk) hsw)
  refine catch_at (Q := fun o => ∃ d', o = .ret d' ∧ d' = d) hF h1 h3 hg (by show F.env.scope.names.lookup xt = _; rw [hsc]; exact hxk) hxd hm (by show F.env.scope.names.lookup n = _; rw [hsc]; exact hk) (hn ▸ hu)
    (fun F' hF' he' hn' => (hs _ F' hF' (hn'.trans hn) (by rw [he']; exact hsc) ⟨hroom'.depth, hroom'.units⟩ hu').mono fun o ho => ?_) fun g o fl Z' s'' T hF'' hq ho hz => ?_
  · cases o with
    | ret d' => exact ⟨d', rfl, Option.some.inj ho⟩
    | next ρ₃ => exact absurd (Option.some.inj ho).symm hd
    | cont ρ₃ => cases ho
    | brk ρ₃ => cases ho
  obtain ⟨d', rfl, rfl⟩ := hq
  obtain ⟨v, ρ₃, rfl, r, ⟨m', muts, oa, hI⟩⟩ := ho
  show R (.ok (.ret v)) s''
  rw [frL] at T
  have hzz : ∀ p ∈ Z, p ∈ Z' := fun p hp => hz.sub p (h2.sub p hp)
  have sL : ∃ o, s.heap.get? L = some o := by obtain ⟨oL, _, _, hL, _⟩ := G.F.ns; exact ⟨oL, hL⟩
  have LZ : L ∉ Z.map (·.1) := fun q => by
    obtain ⟨p, hp, e⟩ := List.mem_map.mp q
    exact (G.N p (by simpa using hp)).2.1 e
  refine hR v Z' s'' ⟨ent.go (h2.trans hz), fun b o hbL hbo => ?_, fun o hbo => ?_, hzz, fun p hp => ?_⟩ r
  · by_cases hb : b ∈ Z.map (·.1)
    · obtain ⟨p, hp, rfl⟩ := List.mem_map.mp hb
      have e1 := ent.has p hp
      rw [hbo] at e1
      rw [Option.some.inj e1]
      exact (hI.newsZ p (hzz p hp)).1
    · exact hI.fr.keep b o (T.other b o (by rw [ent.h0]; exact hideAll_get _ hbo hb) (by simpa using hbL))
  · obtain ⟨sl, hsl⟩ := T.frame L o (by rw [ent.h0]; exact hideAll_get _ hbo LZ) (by simp)
    exact ⟨sl, hI.fr.keep _ _ hsl⟩
  · have q := hI.newsZ p hp
    by_cases hb : p.1 ∈ Z.map (·.1)
    · obtain ⟨p', hp', e'⟩ := List.mem_map.mp hb
      have q' := (hI.newsZ p' (hzz p' hp')).1
      rw [e', q.1] at q'
      have : p = p' := Prod.ext e'.symm (Option.some.inj q')
      exact .inl (this ▸ hp')
    · refine .inr ⟨?_, q.1⟩
      cases e0 : s.heap.get? p.1 with
      | none => rfl
      | some o =>
        obtain ⟨sl, hsl⟩ := T.up (by rw [ent.h0]; exact hideAll_get (Z.map (·.1)) e0 hb)
        have := q.2.2
        simp only at this
        rw [hsl] at this; cases this
end
end Mine

namespace Mine
open PySem PySem.W PySem.Spec PySem.Calls PyProof.Rows

/-! ## isinstance of an exception -/
noncomputable def excK (K : Frag) (D : Addr) : Bool := (clsIn K D).isSome && findIn K (.ref D) "__getattribute__" == some (some (.builtin "BaseException.__getattribute__")) && findIn K (.ref D) "__getattr__" == some none &&
  findIn K (.ref D) "__class__" == some (some (.builtin "object.__class__")) && mroIn K D (.type "object") == some true && mroIn K D (.type "BaseException") == some true
structure ExcK (K : Frag) (D : Addr) : Prop where
  cls : (clsIn K D).isSome = true
  ga : findIn K (.ref D) "__getattribute__" = some (some (.builtin "BaseException.__getattribute__"))
  gt : findIn K (.ref D) "__getattr__" = some none
  cl : findIn K (.ref D) "__class__" = some (some (.builtin "object.__class__"))
  mo : mroIn K D (.type "object") = some true
  mb : mroIn K D (.type "BaseException") = some true
theorem ExcK.of {K : Frag} {D : Addr} (h : excK K D = true) : ExcK K D := by
  unfold excK at h
  simp only [Bool.and_eq_true, beq_iff_eq] at h
  obtain ⟨⟨⟨⟨⟨h1, h2⟩, h3⟩, h4⟩, h5⟩, h6⟩ := h
  exact ⟨h1, h2, h3, h4, h5, h6⟩

section
open Builtin Builtin.ObjectAttr Builtin.Getset_descriptor
variable {prog : Program} {w : World} {A : Around} {E : Value → Shared → Prop} {h : Heap} {g : Array GenState} {d : Drawn} {t : Nat} {os : OsState} {a : Addr} {o : Obj} {K : Frag} {D : Addr}
theorem exc_class_get {R : Result → Shared → Prop} (X : K.In h) (H : ExcK K D) (hx : h.get? a = some o) (hc : o.cls = .ref D) (hq : R (.ok (.ret (.ref D))) ⟨h, g, d, t, os⟩) :
    codeAny (model prog w) A (.call (.builtin "getset_descriptor.__get__") ⟨[.builtin "object.__class__", .ref a, .ref D], []⟩) R ⟨h, g, d, t, os⟩ := by
  have L0 : Looks (model prog w) h (typeOf (.ref a)) (.ref D) := hc ▸ (Looks.ld hx).andThen .now
  have L1 := looks_mroIn (M := model prog w) X H.mo
  refine codeAny_call_builtin KF.slot_gs.plain KF.entry_gs (KF.slot_gs.check _ _ _ _ _ _ _ _ KF.type_class (KF.args_gs _ _ _) ?_)
  unfold Builtin.«getset_descriptor.__get__» descrGet
  rw [dga_obj]
  refine wpAny_bind (wpAny_pure ?_)
  unfold descrGetter descrCheckInstance descrNameAndClass isInstance
  simp only [KF.owner_class]
  repeat lk
  refine ⟨Code.quiet_builtin _ (by decide +kernel), codeAny_builtin KF.entry_class ?_⟩
  unfold Builtin.«object.__class__» shownTypeOf
  repeat lk
  exact hq
theorem exc_class_entry {tk : Tok} {Q : Fin → Shared → Prop} (X : K.In h) (H : ExcK K D) (hx : h.get? a = some o) (hc : o.cls = .ref D) (hq : Q (.done (.ret (.ref D))) ⟨h, g, d, t, os⟩) :
    wpAny (model prog w) A (Builtin.«object.__getattribute__» ⟨[.ref a, .str "__class__" tk], []⟩) Q E ⟨h, g, d, t, os⟩ := by
  have L0 : Looks (model prog w) h (typeOf (.ref a)) (.ref D) := hc ▸ (Looks.ld hx).andThen .now
  have L1 := looks_findIn (M := model prog w) X H.cl
  have hT5 : (⟨h, g, d, t, os⟩ : Shared).TypeIs (.builtin "object.__class__") "getset_descriptor" := F.typeOf_object_class
  have f5 := F.typeOf_object_class
  have f6 := F.slot_gs_get.lookup
  have f7 := F.slot_gs_set.lookup
  repeat (any_goals (first | assumption | (with_reducible refine wpAny_loadPart_at hx ?_; rw [hc]) | with_reducible refine L1.at ?_ | with_reducible refine L0.at ?_ | wp_step))
  refine exc_class_get X H hx hc ?_
  repeat (any_goals (first | assumption | wp_step))
theorem exc_check {M : Model} {nameV : Value} {Q : Unit → Shared → Prop} (X : K.In h) (H : ExcK K D) (hx : h.get? a = some o) (hc : o.cls = .ref D) (hq : Q () ⟨h, g, d, t, os⟩) : wpAny M A (checkBuiltinCall "BaseException.__getattribute__" ⟨[.ref a, nameV], []⟩) Q E ⟨h, g, d, t, os⟩ := by
  have hk : builtinKind "BaseException.__getattribute__" = some .slot := by decide +kernel
  have hsplit : splitId "BaseException.__getattribute__" = some ("BaseException", "__getattribute__") := by decide +kernel
  have ha := F.args_bexc_ga (.ref a) nameV
  have L0 : Looks M h (typeOf (.ref a)) (.ref D) := hc ▸ (Looks.ld hx).andThen .now
  have L1 := looks_mroIn (M := M) X H.mb
  have LI : Looks M h (isInstance (.ref a) (.type "BaseException")) true := L0.andThen L1
  simp only [checkBuiltinCall, hk, hsplit]
  refine wpAny_bind (LI.at ?_)
  repeat (any_goals (first | exact hq | wp_step))
theorem exc_class_attr {Q : Option Value → Shared → Prop} (X : K.In h) (H : ExcK K D) (hx : h.get? a = some o) (hc : o.cls = .ref D) (hq : Q (some (.ref D)) ⟨h, g, d, t + 1, os⟩) : wpAny (model prog w) A (getAttr? (.ref a) "__class__") Q E ⟨h, g, d, t, os⟩ := by
  have L0 : Looks (model prog w) h (typeOf (.ref a)) (.ref D) := hc ▸ (Looks.ld hx).andThen .now
  have L1 := looks_findIn (M := model prog w) X H.ga
  have L2 := looks_findIn (M := model prog w) X H.gt
  have f3 := F.excAttr_ValueError.ga.bind (.ref a)
  have hx2 : (Value.builtin "BaseException.__getattribute__" == Value.builtin "object.__getattribute__") = false := by decide +kernel
  have hx1 : (onTheHeap (Value.ref D) && Value.builtin "BaseException.__getattribute__" == Value.builtin "object.__getattribute__") = false := by rw [hx2]; rfl
  unfold getAttr? getAttrBy?
  repeat (any_goals (first | assumption | (with_reducible refine wpAny_loadPart_at hx ?_; rw [hc]) | with_reducible refine L1.at ?_ | with_reducible refine L2.at ?_ | with_reducible refine L0.at ?_ | wp_step))
  refine codeAny_call_builtin F.excAttr_ValueError.ga.plain F.entry_bexc_ga (exc_check X H hx hc (exc_class_entry X H hx hc ?_))
  repeat (any_goals (first | assumption | wp_step))
end

theorem kitx_exc {K : Frag} {a D : Addr} (H : ExcK K D) : KitX K (.ref a) (.ref D) (fun h => ∃ o, h.get? a = some o ∧ o.cls = .ref D) where
  ty := fun _ _ _ ⟨o, h1, h2⟩ => h2 ▸ (Looks.ld h1).andThen .now
  it := fun _ _ X _ => by
    obtain ⟨cdD, hcD⟩ := Option.isSome_iff_exists.mp H.cls
    unfold clsIn at hcD
    split at hcD
    · rename_i c' d' cd' sl' ho
      intro A' Q' E' s' k q
      unfold isType loadHead
      exact wpAny_bind (wpAny_loadPart (k _ _ (X _ _ ho)) (wpAny_pure q))
    · cases hcD
  ne := fun h tp dd its n sl X htp => by
    obtain ⟨cdD, hcD⟩ := Option.isSome_iff_exists.mp H.cls
    refine Bool.eq_false_iff.mpr fun q => ?_
    have e : D = tp := Value.ref.inj (beq_iff_eq.mp q)
    subst e
    unfold clsIn at hcD
    split at hcD
    · rename_i c' d' cd' sl' ho
      have z := (X _ _ ho).symm.trans htp
      cases z
    · cases hcD
  ca := fun {prog w A E Q s} X p k => by
    obtain ⟨o, h1, h2⟩ := p
    obtain ⟨hh, g, d, t, os⟩ := s
    exact exc_class_attr X H h1 h2 k

section
variable {C : Cx} {A : Around} {St : Led → Shared → Prop} {env : Env} {c : Addr}
/-- isinstance of an exception against a class, by its name -/
theorem EvE.isiX (O : Okay C A St) {x y : Str} {np pos yp : Pos} {e : PySem.Expr} {v : Value} {b : Bool} (hx : NmV C A St env x (.builtin "isinstance")) (hy : NmV C A St env y v) (h : EvE C A St env e (excD c)) (H : ExcK C.K c) (hb : kitOne C.K (.ref c) v = some b)
    (he : starEach [e, .Name y yp] env = (false, eval e env) :: starEach [.Name y yp] env := by with_unfolding_all rfl) (he2 : starEach [.Name y yp] env = (false, eval (.Name y yp) env) :: starEach [] env := by with_unfolding_all rfl) (hp : (backTo pos (starEach [.Name y yp] env)).any (·.1) = false := by with_unfolding_all rfl) :
    EvE C A St env (.Call (.Name x np) [e, .Name y yp] [] pos) (.bool b) := fun Z s K E hs hK => by
  refine Call_ (hx np Z s _ E hs (PyProof.Rows.callWith_builtin1 (args_cons (h Z s _ E hs fun v Z1 s1 x1 r1 => args_cons (hy yp Z1 s1 _ E (O.ext hs x1) (args_nil ?_)) he2) he) he hp))
  have g := O.call (O.ext hs x1)
  have HL := g.has
  obtain ⟨_, _, _, _, _, _, _, G⟩ := g
  cases r1 with
  | exc hm hc =>
    exact kia_one (kitx_exc H) (G.X.keeps G.F.keep) ⟨_, HL _ hm, hc⟩ hb (by intro q; cases q) fun tk => hK _ _ _ (x1.trans (.toks tk)) (.bool _)
end

/-! ## A call of a def that catches -/
section
variable (C : Cx) (A : Around) (F : Fx) (ρ : List Slot)
noncomputable def EvC (e : PySem.Expr) (d : PyData) : Prop :=
  ∀ pin Z s (K : Value → Shared → Prop) (E : Value → Shared → Prop), FSt F ρ pin Z s → (∀ v Z' s', FSt F ρ pin Z' s' → Fwd Z s Z' s' → Rp Z' v d → K v s') → wpAny (model C.prog C.w) A (eval e F.env) K E s
noncomputable def EvBC (e : PySem.Expr) (b : Bool) : Prop :=
  ∀ pin Z s (K : Bool → Shared → Prop) (E : Value → Shared → Prop), FSt F ρ pin Z s → (∀ Z' s', FSt F ρ pin Z' s' → Fwd Z s Z' s' → K b s') → wpAny (model C.prog C.w) A (isTrue e F.env (eval e F.env)) K E s
end
section
variable {C : Cx} {A : Around} {F : Fx} {ρ ρ' : List Slot}
theorem EvC.call (hF : FxOK C A F) (ho : F.outer = []) {k : Nat} (hr : Room A k) (hh : A.handled = none) {x : Str} {np pos : Pos} {e : PySem.Expr} {es : List PySem.Expr} {f : Addr} {ds : List PyData} {d : PyData}
    (hn : NmV C A (FS F ρ) F.env x (.ref f)) (hfn : IsFn C f) (ha : EvEs C A (FS F ρ) F.env (e :: es) ds) (hf : FnC C f k ds d)
    (he : starEach (e :: es) F.env = (false, eval e F.env) :: starEach es F.env := by rfl) : EvC C A F ρ (.Call (.Name x np) (e :: es) [] pos) d := fun pin Z s K E hs hK => by
  obtain ⟨oc, od, fd, osl, hl⟩ := hfn
  refine Call_ (hn np Z s _ E ⟨pin, hs⟩ ?_)
  refine callWith_def (o := ⟨oc, od, .func fd, osl⟩) rfl (ha pos Z s _ E ⟨pin, hs⟩ fun vs Z1 s1 x1 r1 => ?_) he
  obtain ⟨m, muts, oa, hI⟩ := hs.ext x1
  have G := hF.gnd hI
  refine ⟨G.F.keep _ _ (G.X _ _ hl), wpAny_call (hf A F.A₀ F.base F.h₀ F.L m F.env Z1 s1 vs _ (ho ▸ G) hr hh r1 fun v Z2 s2 x2 rv => hK v Z2 s2 ⟨m, muts, oa, hI.extC x2⟩ (x1.fwd.trans ⟨x2.same, x2.sub⟩) rv)⟩
theorem EvBC.plain {e : PySem.Expr} {b : Bool} (h : EvC C A F ρ e (.bool b)) (he : ∀ whole, isTrue e F.env whole = (do let v ← whole; standAt e.pos; holding [v] (truthy v)) := by intro _; with_unfolding_all rfl) : EvBC C A F ρ e b := fun pin Z s K E hs hK =>
  isTrue_plain (h pin Z s _ E hs fun v Z' s' h1 h2 hv => by rw [hv.boolAt]; exact wpAny_truthy_bool (hK _ _ h1 h2)) (he _)
theorem EvBC.not {e : PySem.Expr} {b : Bool} {pos : Pos} (h : EvBC C A F ρ e b) : EvBC C A F ρ (.UnaryOp .Not e pos) (!b) := fun pin Z s K E hs hK =>
  isTrue_not (h pin Z s _ E hs hK)
theorem EvBC.cmp (hF : FxOK C A F) (hu : A.units + 200 < cLine) {op : PySem.CmpOp} {l r : PySem.Expr} {pos : Pos} {d1 d2 : PyData} {b : Bool} (h1 : EvC C A F ρ l d1) (h2 : EvE C A (FS F ρ) F.env r d2) (hb : CmpR op d1 d2 b)
    (hm : behindInMarks op r = false := by with_unfolding_all rfl) : EvBC C A F ρ (.Compare l [op] [r] pos) b := fun pin Z s K E hs hK =>
  wpAny_isTrue_Compare1 (h1 pin Z s _ E hs fun v1 Z1 s1 x1 w1 r1 => h2 Z1 s1 _ E ⟨pin, x1⟩ fun v2 Z2 s2 x2 r2 =>
    cmpR_ok hu hb ((hF.okay ρ).has ⟨pin, x1.ext x2⟩) (r1.mono x2.sub) r2 fun Z3 s3 x3 => wpAny_truthy_bool (hK _ _ ((x1.ext x2).ext x3) (w1.trans (x2.trans x3).fwd))) hm
theorem Ex1.retC {e : PySem.Expr} {pos : Pos} {d : PyData} {Q : Out → Prop} (he : EvC C A F ρ e d) (hq : Q (.ret d)) : Ex1 C A F ρ (.Return (some e) pos) Q := fun pin Z s K hst hK =>
  wpAny_Return_some (he pin Z s _ _ hst fun v Z' s' x w r => hK _ _ Z' s' hq ⟨v, ρ, rfl, r, x⟩ w)
theorem Ex1.iteC {test : PySem.Expr} {body orelse : List PySem.Stmt} {pos : Pos} {b : Bool} {Q : Out → Prop} (hb : EvBC C A F ρ test b) (ht : b = true → ExS C A F ρ body Q) (hf : b = false → ExS C A F ρ orelse Q) :
    Ex1 C A F ρ (.If test body orelse pos) Q := fun pin Z s K hst hK => by
  refine wpAny_If (hb pin Z s _ _ hst fun Z' s' x w => ?_)
  have go : ∀ o fl Z'' s'', Q o → OutAt F pin o fl Z'' s'' → Fwd Z' s' Z'' s'' → K fl s'' := fun o fl Z'' s'' q1 q2 q3 => hK o fl Z'' s'' q1 q2 (w.trans q3)
  cases b with
  | true => exact ht rfl pin Z' s' K x go
  | false => exact hf rfl pin Z' s' K x go
end

/-! ## The wrapped rules -/
theorem FnRA.of {C : Cx} {f c : Addr} {k : Nat} (st : PySem.Stmt) (ns gs : List Str) (ds : List PyData) (more : List Str) (D : DefAt C f (fdParams st) (fdBody st) (fdScope st))
    (hps : (fdParams st).args.map (·.arg) ++ more = ns) (hlen : (fdParams st).args.length = ds.length) (hS : scopeB (fdScope st) ns gs = true)
    (hb : ∀ A F, Wk C A F k ns gs → ExX C A F (ds.map .dat ++ more.map fun _ => .undef) (fdBody st) c) : FnRA C f (k + 1) ds c := by
  subst hps
  unfold scopeB at hS
  simp only [Bool.and_eq_true, decide_eq_true_eq, List.all_eq_true, Bool.not_eq_true', beq_iff_eq, bne_iff_ne] at hS
  obtain ⟨⟨⟨⟨⟨⟨h1, h2⟩, h3⟩, h4⟩, h5⟩, h6⟩, h7⟩ := hS
  exact FnRA.enters (Entry.plain D more hlen ⟨h1, h2, h4, h5, h6, h7⟩) fun A F hF hn hs hr hh hu => hb A F ⟨hF, hn, fun x hx => ⟨by show F.env.scope.names.lookup x = _; rw [hs]; exact (h3 x hx).2, (h3 x hx).1⟩, hr.le (Nat.mod_le _ _), fun _ => hh, hu⟩
theorem FnRA.ofC {C : Cx} {f c : Addr} {k : Nat} (st : PySem.Stmt) (y : Str) (ns gs : List Str) (ds : List PyData) (more : List Str) (D : DefAt C f (fdParams st) (fdBody st) (fdScope st))
    (hps : (fdParams st).args.map (·.arg) ++ more = ns) (hlen : (fdParams st).args.length = ds.length) (hS : scopeCB (fdScope st) ns gs y = true) (hc : ∀ n, cellsFrom n (fdScope st).names [] = [(y, n)])
    (hb : ∀ A F, Wk C A F k ns gs → Ck F y → ExX C A F (ds.map .dat ++ more.map fun _ => .undef) (fdBody st) c) : FnRA C f (k + 1) ds c := by
  subst hps
  obtain ⟨S, h3⟩ := scopeCB_ok hS hc
  refine FnRA.enters (Entry.cellD D more hlen S) fun A F hF hn hs hr hh hu => hb A F ⟨hF, hn, fun x hx => ⟨by show F.env.scope.names.lookup x = _; rw [hs]; exact (h3 x hx).2, (h3 x hx).1⟩, hr.le (Nat.mod_le _ _), fun _ => hh, hu⟩ ?_
  have hk : F.env.kindOf y = some .cell := by show F.env.scope.names.lookup y = _; rw [hs, (S.kinds y S.mem).2, if_pos rfl]
  refine ⟨hk, ?_, fun x hx hne => by show F.env.scope.names.lookup x = _; rw [hs, (S.kinds x (hn ▸ hx)).2, if_neg hne]⟩
  rcases (hF.kinds y (by rw [hn]; exact S.mem)).2 with q | q
  · rw [hk] at q; cases q
  · exact q.2
theorem FnC.of {C : Cx} {f c c' : Addr} {k : Nat} {d : PyData} (st : PySem.Stmt) (ns gs : List Str) (ds : List PyData) (more : List Str) {e : PySem.Expr} {ep np hp tp : Pos} {xt n : Str} {b₀ : PySem.Stmt} {suite rest : List PySem.Stmt} {ρ₂ : List Slot} {i : Nat} (D : DefAt C f (fdParams st) (fdBody st) (fdScope st))
    (hbody : fdBody st = .Try [.Expr e ep] [.ExceptHandler (some (.Name xt np)) (some n) (b₀ :: suite) hp] [] [] tp :: rest)
    (hps : (fdParams st).args.map (·.arg) ++ more = ns) (hlen : (fdParams st).args.length = ds.length) (hS : scopeB (fdScope st) ns gs = true) (hg : Gl C xt c') (hm : exmOne C.K (.ref c) (.ref c') = some true) (hxt : xt ∈ gs) (hn : n ∈ ns) (hd : d ≠ .none)
    (hu : Upd ns (ds.map .dat ++ more.map fun _ => .undef) n (.dat (excD c)) i ρ₂)
    (hb : ∀ A F, Wk C A F k ns gs → EvX C A F (ds.map .dat ++ more.map fun _ => .undef) e c ∧ swapsWith e none ep.line F.env = pure false)
    (hs : ∀ A F, Wk C A F (200 + k) ns gs → ExS C A F ρ₂ (b₀ :: suite) (RetQ d)) : FnC C f (k + 1) ds d := by
  subst hps
  rw [hbody] at D
  unfold scopeB at hS
  simp only [Bool.and_eq_true, decide_eq_true_eq, List.all_eq_true, Bool.not_eq_true', beq_iff_eq, bne_iff_ne] at hS
  obtain ⟨⟨⟨⟨⟨⟨h1, h2⟩, h3⟩, h4⟩, h5⟩, h6⟩, h7⟩ := hS
  exact FnC.enters (Entry.plain D more hlen ⟨h1, h2, h4, h5, h6, h7⟩) hg hm (h3 xt hxt).2 (h3 xt hxt).1 (h2 n hn).2 hu hd
    (fun A F hF hn hs hr hh hu => hb A F ⟨hF, hn, fun x hx => ⟨by show F.env.scope.names.lookup x = _; rw [hs]; exact (h3 x hx).2, (h3 x hx).1⟩, hr.le (Nat.mod_le _ _), fun _ => hh, hu⟩)
    fun A F hF hn hsc hr hu => hs A F ⟨hF, hn, fun x hx => ⟨by show F.env.scope.names.lookup x = _; rw [hsc]; exact (h3 x hx).2, (h3 x hx).1⟩, hr.le (Nat.le_trans (Nat.le_of_eq (Nat.add_mod_left ..)) (Nat.mod_le ..)), fun q => by omega, hu⟩
namespace V
section
variable {C : Cx} {A : Around} {F : Fx} {k : Nat} {ns gs : List Str} {ρ ρ' : List Slot} {c : Addr}
theorem callX (W : Wk C A F k ns gs) {x : Str} {np pos : Pos} {e : PySem.Expr} {es : List PySem.Expr} {f : Addr} {k' : Nat} {ds : List PyData} (hx : x ∈ gs) (hg : Gl C x f) (hfn : IsFn C f) (ha : EvEs C A (FS F ρ) F.env (e :: es) ds)
    (hf : FnRA C f k' ds c) (hk : k' ≤ k) (he : starEach (e :: es) F.env = (false, eval e F.env) :: starEach es F.env := by with_unfolding_all rfl) (h9 : k ≤ 100 := by decide) : EvX C A F ρ (.Call (.Name x np) (e :: es) [] pos) c :=
  EvX.call W.hF ((W.rm h9).le hk) (W.hh h9) (gl W hx hg) hfn ha hf he
theorem callC (W : Wk C A F k ns gs) (ho : F.outer = []) {x : Str} {np pos : Pos} {e : PySem.Expr} {es : List PySem.Expr} {f : Addr} {k' : Nat} {ds : List PyData} {d : PyData} (hx : x ∈ gs) (hg : Gl C x f) (hfn : IsFn C f) (ha : EvEs C A (FS F ρ) F.env (e :: es) ds)
    (hf : FnC C f k' ds d) (hk : k' ≤ k) (he : starEach (e :: es) F.env = (false, eval e F.env) :: starEach es F.env := by with_unfolding_all rfl) (h9 : k ≤ 100 := by decide) : EvC C A F ρ (.Call (.Name x np) (e :: es) [] pos) d :=
  EvC.call W.hF ho ((W.rm h9).le hk) (W.hh h9) (gl W hx hg) hfn ha hf he
theorem raise (W : Wk C A F k ns gs) {x : Str} {np cpos pos : Pos} {e : PySem.Expr} {d : PyData} (hx : x ∈ gs) (hg : Gl C x c) (hex : x ∈ C.exs) (ha : EvEs C A (FS F ρ) F.env [e] [d])
    (he : starEach [e] F.env = (false, eval e F.env) :: starEach [] F.env := by with_unfolding_all rfl) (h9 : k ≤ 100 := by decide) : Ex1X C A F ρ (.Raise (some (.Call (.Name x np) [e] [] cpos)) none pos) c :=
  Ex1X.raise W.hF (W.hh h9) (gl W hx hg) hg hex ha he
theorem isiX (W : Wk C A F k ns gs) {x y : Str} {np pos yp : Pos} {e : PySem.Expr} {D : Addr} {b : Bool} (hx : x ∈ gs) (hb : Bi C x (.builtin "isinstance")) (hy : y ∈ gs) (hD : Gl C y D) (h : EvE C A (FS F ρ) F.env e (excD c)) (H : ExcK C.K c) (hk : kitOne C.K (.ref c) (.ref D) = some b)
    (he : starEach [e, .Name y yp] F.env = (false, eval e F.env) :: starEach [.Name y yp] F.env := by with_unfolding_all rfl) (he2 : starEach [.Name y yp] F.env = (false, eval (.Name y yp) F.env) :: starEach [] F.env := by with_unfolding_all rfl) (hp : (backTo pos (starEach [.Name y yp] F.env)).any (·.1) = false := by with_unfolding_all rfl) :
    EvE C A (FS F ρ) F.env (.Call (.Name x np) [e, .Name y yp] [] pos) (.bool b) := EvE.isiX (ok W ρ) (bi W hx hb) (gl W hy hD) h H hk he he2 hp
theorem isiXB (W : Wk C A F k ns gs) {x y : Str} {np pos yp : Pos} {e : PySem.Expr} {T : String} {b : Bool} (hx : x ∈ gs) (hb : Bi C x (.builtin "isinstance")) (hy : y ∈ gs) (hD : Bi C y (.type T)) (h : EvE C A (FS F ρ) F.env e (excD c)) (H : ExcK C.K c) (hk : kitOne C.K (.ref c) (.type T) = some b)
    (he : starEach [e, .Name y yp] F.env = (false, eval e F.env) :: starEach [.Name y yp] F.env := by with_unfolding_all rfl) (he2 : starEach [.Name y yp] F.env = (false, eval (.Name y yp) F.env) :: starEach [] F.env := by with_unfolding_all rfl) (hp : (backTo pos (starEach [.Name y yp] F.env)).any (·.1) = false := by with_unfolding_all rfl) :
    EvE C A (FS F ρ) F.env (.Call (.Name x np) [e, .Name y yp] [] pos) (.bool b) := EvE.isiX (ok W ρ) (bi W hx hb) (bi W hy hD) h H hk he he2 hp
end
end V

/-! ## try in the law's own frame -/
section
variable {C : Cx} {A : Around} {F : Fx} {ρ ρ' : List Slot} {c : Addr}
/-- the body of a try is left by an exception -/
noncomputable def TbX (C : Cx) (A : Around) (F : Fx) (ρ : List Slot) (ss : List PySem.Stmt) (c : Addr) : Prop :=
  ∀ pin Z s (K : Flow → Shared → Prop) (E : Value → Shared → Prop), FSt F ρ pin Z s → (∀ x Z₁ s₁ s', FSt F ρ pin Z₁ s₁ → Fwd Z s Z₁ s₁ → Thr (F.env :: F.outer) c x s₁ s' → E (.ref x) s') →
    wpAny (model C.prog C.w) A (execs ss F.env) K E s
theorem TbX.expr (hF : FxOK C A F) {e : PySem.Expr} {pos : Pos} {rest : List PySem.Stmt} (h : EvX C A F ρ e c) (hs : swapsWith e none pos.line F.env = pure false := by with_unfolding_all rfl) : TbX C A F ρ (.Expr e pos :: rest) c := fun pin Z s K E hst hE =>
  wpAny_execs_cons (wpAny_Expr_any (h pin Z s _ _ hst hE) (noInter hF.hk) hs)
theorem TbX.assign {e : PySem.Expr} {x : Str} {px pos : Pos} {rest : List PySem.Stmt} (h : EvX C A F ρ e c) (hs : swapsWith e (some (.Name x px)) pos.line F.env = pure false := by with_unfolding_all rfl) : TbX C A F ρ (.Assign [.Name x px] e pos :: rest) c := fun pin Z s K E hst hE =>
  wpAny_execs_cons (wpAny_Assign_Name (h pin Z s _ _ hst hE) hs)
theorem FSt.back {g : Heap} {pin Z : Led} {s : Shared} (T : KtsTurn [] F.h₀ g) (h : FSt (F.on g) ρ pin Z s) : FSt F ρ pin Z s := by
  obtain ⟨m, muts, oa, h⟩ := h
  refine ⟨m, muts, oa, ⟨h.fr.ns, fun b o e => h.fr.keep b o (T.other b o e (by simp)), ?_⟩, fun p hp => ?_, h.d1, h.d2, h.slots, h.inj, h.cells⟩
  · have := h.fr.above
    rw [T.size] at this; exact this
  · have q := h.nw p hp
    refine ⟨q.1, q.2.1, ?_⟩
    cases e : F.h₀.get? p.1 with
    | none => rfl
    | some o =>
      have r := T.other p.1 o e (by simp)
      have := q.2.2
      simp only at this
      rw [r] at this; cases this
theorem Ex1.tryX (hF : FxOK C A F) (ho : F.outer = []) {tb : List PySem.Stmt} {xt n : Str} {np hp pos : Pos} {c' : Addr} {b₀ : PySem.Stmt} {suite : List PySem.Stmt} {ρ₂ : List Slot} {i : Nat} {Q : Out → Prop} (hb : TbX C A F ρ tb c)
    (hg : Gl C xt c') (hxk : F.env.kindOf xt = some .globalImplicit) (hxd : (xt == ("__debug__" : Str)) = false) (hm : exmOne C.K (.ref c) (.ref c') = some true) (hk : F.env.kindOf n = some .local) (hu : Upd F.ns ρ n (.dat (excD c)) i ρ₂)
    (hsuite : ∀ A' F', FxOK C A' F' → F'.env = F.env → F'.ns = F.ns → A'.depth = A.depth → A'.units = A.units → ExS C A' F' ρ₂ (b₀ :: suite) (HQ F.ns n Q)) :
    Ex1 C A F ρ (.Try tb [.ExceptHandler (some (.Name xt np)) (some n) (b₀ :: suite) hp] [] [] pos) Q := fun pin Z s K hst hK => by
  refine wpAny_Try_except (hb pin Z s _ _ hst fun x Z₁ s₁ s' h1 h2 h3 => ?_)
  refine catch_at (Q := Q) hF h1 h3 hg hxk hxd hm hk hu (fun F' hF' he hn => hsuite _ F' hF' he hn rfl rfl) fun g o fl Z' s'' T hF'' hq hout hz => ?_
  rw [ho] at T
  refine hK o fl Z' s'' hq ?_ (h2.trans hz)
  cases o with
  | next ρ₃ => exact ⟨hout.1, hout.2.back T⟩
  | cont ρ₃ => exact ⟨hout.1, hout.2.back T⟩
  | brk ρ₃ => exact ⟨hout.1, hout.2.back T⟩
  | ret d => obtain ⟨v, ρ₃, e, r, q⟩ := hout; exact ⟨v, ρ₃, e, r, q.back T⟩
/-- a try whose body raises nothing -/
theorem Ex1.tryOk {tb : List PySem.Stmt} {h₀ : ExceptHandler} {hl : List ExceptHandler} {pos : Pos} {Q : Out → Prop} (h : ExS C A F ρ tb Q) : Ex1 C A F ρ (.Try tb (h₀ :: hl) [] [] pos) Q := fun pin Z s K hst hK => by
  refine wpAny_Try_except (wpAny_mono (h pin Z s (fun fl s' => K fl s') hst hK) (fun fl s' q => ?_) fun _ _ x => x.elim)
  cases fl with
  | next => exact wpAny_execs_nil q
  | _ => exact q
end

/-! ## defs that may be called while an exception is handled -/
noncomputable def FnH (C : Cx) (f : Addr) (k : Nat) (ds : List PyData) (d : PyData) : Prop :=
  ∀ A Z s vs (R : Result → Shared → Prop), Ground C A Z s → Room A k → Rps Z vs ds → (∀ v Z' s', Ext Z s Z' s' → Rp Z' v d → R (.ok (.ret v)) s') → codeAny (model C.prog C.w) A (.call (.ref f) ⟨vs, []⟩) R s
theorem FnH.of {C : Cx} {f : Addr} {k : Nat} {d : PyData} (st : PySem.Stmt) (ns gs : List Str) (ds : List PyData) (more : List Str) (D : DefAt C f (fdParams st) (fdBody st) (fdScope st))
    (hps : (fdParams st).args.map (·.arg) ++ more = ns) (hlen : (fdParams st).args.length = ds.length) (hS : scopeB (fdScope st) ns gs = true)
    (hb : ∀ A F, Wk C A F (200 + k) ns gs → ExS C A F (ds.map .dat ++ more.map fun _ => .undef) (fdBody st) (RetQ d)) : FnH C f (k + 1) ds d := by
  subst hps
  unfold scopeB at hS
  simp only [Bool.and_eq_true, decide_eq_true_eq, List.all_eq_true, Bool.not_eq_true', beq_iff_eq, bne_iff_ne] at hS
  obtain ⟨⟨⟨⟨⟨⟨h1, h2⟩, h3⟩, h4⟩, h5⟩, h6⟩, h7⟩ := hS
  intro A Z s vs R hg hroom hr hR
  refine Entry.plain D more hlen ⟨h1, h2, h4, h5, h6, h7⟩ A Z s vs R hg hroom hr fun F s₁ hF hn hs hroom' hu ent hst => ?_
  refine wpAny_mono (hb _ F ⟨hF, hn, fun x hx => ⟨by show F.env.scope.names.lookup x = _; rw [hs]; exact (h3 x hx).2, (h3 x hx).1⟩, hroom'.le (Nat.le_trans (Nat.le_of_eq (Nat.add_mod_left ..)) (Nat.mod_le ..)), fun q => by omega, hu⟩ [] Z s₁
    (fun fl s' => ∃ v Z', retOf fl = v ∧ Rp Z' v d ∧ (∃ ρ', FSt F ρ' [] Z' s') ∧ Fwd Z s₁ Z' s') hst fun o fl Z' s' q1 q2 q3 => ?_) (fun fl s' q => ?_) fun _ _ x => x.elim
  · cases o with
    | next ρ' => obtain ⟨rfl, q2⟩ := q2; cases q1; exact ⟨_, Z', rfl, .none, ⟨ρ', q2⟩, q3⟩
    | cont ρ' => cases q1
    | brk ρ' => cases q1
    | ret d' => obtain ⟨v, ρ', rfl, r, q2⟩ := q2; cases q1; exact ⟨v, Z', rfl, r, ⟨ρ', q2⟩, q3⟩
  · obtain ⟨v, Z', e, r, ⟨ρ', m', muts, oa, hI⟩, hz⟩ := q
    show R (.ok (.ret (retOf fl))) s'
    rw [e]
    exact hR v Z' s' (ent.ext hI hz) r
namespace V
section
variable {C : Cx} {A : Around} {F : Fx} {k : Nat} {ns gs : List Str} {ρ ρ' : List Slot} {c : Addr}
theorem callH (W : Wk C A F k ns gs) {x : Str} {np pos : Pos} {e : PySem.Expr} {es : List PySem.Expr} {f : Addr} {k' : Nat} {ds : List PyData} {d : PyData} (hx : x ∈ gs) (hg : Gl C x f) (hfn : IsFn C f) (ha : EvEs C A (FS F ρ) F.env (e :: es) ds)
    (hf : FnH C f k' ds d) (hk : k' ≤ k % 200) (he : starEach (e :: es) F.env = (false, eval e F.env) :: starEach es F.env := by with_unfolding_all rfl) : EvE C A (FS F ρ) F.env (.Call (.Name x np) (e :: es) [] pos) d := fun Z s K E hs hK => by
  obtain ⟨oc, od, fd, osl, hl⟩ := hfn
  refine Call_ (gl W hx hg np Z s _ E hs ?_)
  refine callWith_def (o := ⟨oc, od, .func fd, osl⟩) rfl (ha pos Z s _ E hs fun vs Z1 s1 x1 r1 => ?_) he
  have g := (ok W ρ).call ((ok W ρ).ext hs x1)
  refine ⟨?_, wpAny_call (hf A Z1 s1 vs _ g (W.room.le hk) r1 fun v Z2 s2 x2 rv => hK _ _ _ (x1.trans x2) rv)⟩
  obtain ⟨_, _, _, _, _, _, _, G⟩ := g
  exact G.F.keep _ _ (G.X _ _ hl)
theorem tryX (W : Wk C A F k ns gs) (ho : F.outer = []) {tb : List PySem.Stmt} {xt n : Str} {np hp pos : Pos} {c' : Addr} {b₀ : PySem.Stmt} {suite : List PySem.Stmt} {ρ₂ : List Slot} {i : Nat} {Q : Out → Prop} (hb : TbX C A F ρ tb c)
    (hx : xt ∈ gs) (hg : Gl C xt c') (hm : exmOne C.K (.ref c) (.ref c') = some true) (hk : F.env.kindOf n = some .local) (hu : Upd ns ρ n (.dat (excD c)) i ρ₂)
    (hsuite : ∀ A' F', Wk C A' F' (200 + k) ns gs → ExS C A' F' ρ₂ (b₀ :: suite) (HQ ns n Q)) (h9 : k ≤ 100 := by decide) :
    Ex1 C A F ρ (.Try tb [.ExceptHandler (some (.Name xt np)) (some n) (b₀ :: suite) hp] [] [] pos) Q :=
  Ex1.tryX W.hF ho hb hg (W.hG xt hx).1 (W.hG xt hx).2 hm hk (W.hns ▸ hu) fun A' F' hF' he hn h1 h2 => by
    rw [W.hns]
    have r := W.rm h9
    exact hsuite A' F' ⟨hF', hn.trans W.hns, fun x hx => he ▸ W.hG x hx, ⟨by have := r.depth; rw [h1, Nat.add_mod_left, Nat.mod_eq_of_lt (by omega)]; exact this, by have := r.units; rw [h2, Nat.add_mod_left, Nat.mod_eq_of_lt (by omega)]; exact this⟩, fun q => by omega, by rw [h2]; exact W.hu⟩
end
end V
end Mine

namespace Mine
open PySem PySem.W PySem.Spec PySem.Calls PyProof.Rows

/-! ## sorted of a list that is sorted but for its last item -/
section
variable {N : Nat} {key : Nat → Int} {s : Shared} {cmp : Nat → Nat → (Bool → Shared → Prop) → Shared → Prop}
/-- the questions' answers -/
noncomputable def CmpOK (N : Nat) (key : Nat → Int) (s : Shared) (cmp : Nat → Nat → (Bool → Shared → Prop) → Shared → Prop) : Prop :=
  ∀ i j (C : Bool → Shared → Prop), i < N → j < N → i ≠ j → C (decide (key i < key j)) s → cmp i j C s
theorem rng_at {i : Nat} (h : i < N) : (List.toArray (List.range N)).getD i 0 = i := by simp [Array.getD, h]
theorem asc_wp (hc : CmpOK N key s cmp) (inc : ∀ t, 1 ≤ t → t + 1 < N → key (t - 1) < key t) {Q : Nat → Shared → Prop} : ∀ (f n : Nat), n + f = N → 1 ≤ n → (n = N → ¬ key (N - 1) < key (N - 2)) →
    (key (N - 1) < key (N - 2) → Q (N - 1) s) → (¬ key (N - 1) < key (N - 2) → Q N s) → (kas_asc (List.toArray (List.range N)) f n).kasWp cmp Q s
  | 0, n, h, h1, he, q1, q2 => by
    have : n = N := by omega
    subst this
    exact q2 (he rfl)
  | f + 1, n, h, h1, he, q1, q2 => by
    show cmp _ _ _ s
    rw [rng_at (by omega), rng_at (by omega)]
    refine hc _ _ _ (by omega) (by omega) (by omega) ?_
    by_cases hl : n + 1 = N
    · have e1 : N - 1 = n := by omega
      have e2 : N - 2 = n - 1 := by omega
      rw [e1, e2] at q1 q2
      by_cases hk : key n < key (n - 1)
      · simp only [decide_eq_true hk, if_true]
        exact q1 hk
      · simp only [decide_eq_false hk, Bool.false_eq_true, if_false]
        exact asc_wp hc inc f (n + 1) (by omega) (by omega) (fun _ => by rw [e1, e2]; exact hk) (fun q => by rw [e1, e2] at q; exact absurd q hk) (fun _ => q2 hk)
    · have := inc n h1 (by omega)
      simp only [decide_eq_false (show ¬ key n < key (n - 1) by omega), Bool.false_eq_true, if_false]
      exact asc_wp hc inc f (n + 1) (by omega) (by omega) (fun e => by omega) q1 q2
theorem place_wp (hc : CmpOK N key s cmp) (hN : 1 ≤ N) (mono : ∀ a b, a < b → b + 1 < N → key a < key b) (ne : ∀ t, t + 1 < N → key t ≠ key (N - 1)) {Q : Nat → Shared → Prop}
    (hq : ∀ l, l ≤ N - 1 → (∀ t, t < l → key t < key (N - 1)) → (∀ t, l ≤ t → t + 1 < N → key (N - 1) < key t) → Q l s) : ∀ (f l r : Nat), l ≤ r → r ≤ N - 1 → r - l ≤ f → (∀ t, t < l → key t < key (N - 1)) → (∀ t, r ≤ t → t + 1 < N → key (N - 1) < key t) →
    (kas_place (List.toArray (List.range N)) (N - 1) f l r).kasWp cmp Q s
  | 0, l, r, h1, h2, h3, h4, h5 => hq l (by omega) h4 fun t a b => h5 t (by omega) b
  | f + 1, l, r, h1, h2, h3, h4, h5 => by
    unfold kas_place
    by_cases hlr : l ≥ r
    · rw [if_pos hlr]
      exact hq l (by omega) h4 fun t a b => h5 t (by omega) b
    · rw [if_neg hlr]
      show cmp _ _ _ s
      rw [rng_at (by omega), rng_at (by omega)]
      refine hc _ _ _ (by omega) (by omega) (by omega) ?_
      by_cases hk : key (N - 1) < key ((l + r) / 2)
      · simp only [decide_eq_true hk, if_true]
        refine place_wp hc hN mono ne hq f l _ (by omega) (by omega) (by omega) h4 fun t a b => ?_
        rcases Nat.eq_or_lt_of_le a with e | e
        · rw [← e]; exact hk
        · have := mono _ t e b; omega
      · simp only [decide_eq_false hk, Bool.false_eq_true, if_false]
        have hm : key ((l + r) / 2) < key (N - 1) := by
          have := ne ((l + r) / 2) (by omega); omega
        refine place_wp hc hN mono ne hq f _ r (by omega) h2 (by omega) (fun t ht => ?_) h5
        rcases Nat.eq_or_lt_of_le (Nat.le_of_lt_succ ht) with e | e
        · rw [e]; exact hm
        · have := mono t _ e (by omega); omega
theorem sort_wp (hc : CmpOK N key s cmp) (hN : 2 ≤ N) (mono : ∀ a b, a < b → b + 1 < N → key a < key b) (ne : ∀ t, t + 1 < N → key t ≠ key (N - 1)) {Q : Array Nat → Shared → Prop}
    (hq : ∀ l, l ≤ N - 1 → (∀ t, t < l → key t < key (N - 1)) → (∀ t, l ≤ t → t + 1 < N → key (N - 1) < key t) → Q (bubble (List.toArray (List.range N)) (N - 1) (N - 1 - l)) s) : (kas_sort N).kasWp cmp Q s := by
  have inc : ∀ t, 1 ≤ t → t + 1 < N → key (t - 1) < key t := fun t h1 h2 => mono _ _ (by omega) h2
  unfold kas_sort
  rw [KasT.kasWp_bind]
  unfold kas_count
  rw [KasT.kasWp_bind]
  refine asc_wp hc inc (N - 1) 1 (by omega) (Nat.le_refl _) (fun e => by omega) (fun hk => ?_) (fun hk => ?_)
  · rw [if_neg (by simp; omega)]
    by_cases h2 : N - 1 > 1
    · rw [if_pos h2]
      show cmp _ _ _ s
      rw [rng_at (by omega), rng_at (by omega)]
      refine hc _ _ _ (by omega) (by omega) (by omega) ?_
      have := mono 0 (N - 1 - 1) (by omega) (by omega)
      simp only [decide_eq_true this, if_true]
      show ((if N - 1 < N then kas_bin (N - max (N - 1) 1) (List.toArray (List.range N)) (max (N - 1) 1) else .ret (List.toArray (List.range N))) : KasT (Array Nat)).kasWp cmp Q s
      rw [if_pos (by omega), show max (N - 1) 1 = N - 1 by omega, show N - (N - 1) = 0 + 1 by omega]
      unfold kas_bin
      rw [KasT.kasWp_bind]
      refine place_wp hc (by omega) mono ne (fun l a b c => ?_) (N - 1) 0 (N - 1) (by omega) (Nat.le_refl _) (by omega) (fun t ht => by omega) (fun t a b => by omega)
      exact hq l a b c
    · have : N = 2 := by omega
      subst this
      rw [if_neg h2]
      have e : bubble (List.toArray (List.range 2)) (2 - 1) (2 - 1 - 0) = kas_rev (List.toArray (List.range 2)) 0 2 := by decide
      have := hq 0 (by omega) (fun t ht => by omega) (fun t a b => by
        have : t = 0 := by omega
        subst this; exact hk)
      rw [e] at this
      exact this
  · rw [if_pos (by simp)]
    show ((if N < N then _ else .ret (List.toArray (List.range N))) : KasT (Array Nat)).kasWp cmp Q s
    rw [if_neg (Nat.lt_irrefl _)]
    have hl : key (N - 2) < key (N - 1) := by have := ne (N - 2) (by omega); omega
    have := hq (N - 1) (Nat.le_refl _) (fun t ht => by
      rcases Nat.lt_or_ge t (N - 2) with q | q
      · have := mono t (N - 2) q (by omega); omega
      · have : t = N - 2 := by omega
        subst this; exact hl) (fun t a b => by omega)
    rw [Nat.sub_self] at this
    exact this
end
theorem perm_out {rv : List Value} {tv : Value} {l : Nat} (hl : l ≤ rv.length) :
    ((bubble (List.toArray (List.range (rv.length + 1))) (rv.length + 1 - 1) (rv.length + 1 - 1 - l)).toList.map fun i => (rv ++ [tv]).getD i Value.none) = rv.take l ++ tv :: rv.drop l := by
  have hsz : rv.length + 1 - 1 < (List.toArray (List.range (rv.length + 1))).size := by simp
  refine List.ext_getElem? fun k => ?_
  rw [List.getElem?_map, Array.getElem?_toList, getElem?_bubble hsz _ (by omega)]
  have hr : ∀ i : Nat, (List.toArray (List.range (rv.length + 1)))[i]? = if i < rv.length + 1 then some i else none := fun i => by
    by_cases h : i < rv.length + 1
    · rw [if_pos h]; simp [h]
    · rw [if_neg h]; simp; omega
  rw [hr, hr, hr]
  have hlen : (rv.take l).length = l := by rw [List.length_take]; omega
  by_cases h1 : k = l
  · subst h1
    rw [if_pos (by omega), if_pos (by omega), List.getElem?_append_right (by omega), hlen, Nat.sub_self]
    simp
  · rw [if_neg (by omega)]
    by_cases h2 : l < k
    · rw [List.getElem?_append_right (by omega), hlen, show k - l = (k - l - 1) + 1 by omega, List.getElem?_cons_succ, List.getElem?_drop, show l + (k - l - 1) = k - 1 by omega]
      by_cases h3 : k ≤ rv.length
      · rw [if_pos ⟨by omega, by omega⟩, if_pos (by omega)]
        have : k - 1 < rv.length := by omega
        rw [Option.map_some, List.getD_eq_getElem?_getD, List.getElem?_append_left this, List.getElem?_eq_getElem this]; rfl
      · rw [if_neg (by omega), if_neg (by omega), Option.map_none, List.getElem?_eq_none (by omega)]
    · have h3 : k < l := by omega
      have : k < rv.length := by omega
      rw [if_neg (by omega), if_pos (by omega), Option.map_some, List.getElem?_append_left (by omega), List.getElem?_take_of_lt h3, List.getD_eq_getElem?_getD, List.getElem?_append_left this, List.getElem?_eq_getElem this]; rfl
/-- a tuple that opens with a number -/
inductive Keyd : Int → PyData → Prop
  | mk {k : Int} {r : List PyData} : Keyd k (.tuple (.int k :: r))
inductive Keyds : List Int → List PyData → Prop
  | nil : Keyds [] []
  | cons {k : Int} {d : PyData} {ks : List Int} {ds : List PyData} : Keyd k d → Keyds ks ds → Keyds (k :: ks) (d :: ds)
theorem Keyds.len {ks : List Int} {ds : List PyData} (h : Keyds ks ds) : ks.length = ds.length := by
  induction h with
  | nil => rfl
  | cons _ _ ih => simp [ih]
theorem Keyds.append {ks ks' : List Int} {ds ds' : List PyData} (h : Keyds ks ds) (h' : Keyds ks' ds') : Keyds (ks ++ ks') (ds ++ ds') := by
  induction h with
  | nil => exact h'
  | cons a _ ih => exact .cons a ih
theorem Keyd.at {Z : Led} {k : Int} {d : PyData} {v : Value} (h : Keyd k d) (r : Rp Z v d) : ∃ a o vs n t, v = .ref a ∧ (a, o) ∈ Z ∧ o.cls = .type "tuple" ∧ o.data = .seq (List.toArray (.int k t :: vs)) n := by
  cases h with
  | mk =>
    cases r with
    | tuple hm hc hd rs =>
      cases rs with
      | cons r1 r2 =>
        obtain ⟨t, rfl⟩ := r1.intAt
        exact ⟨_, _, _, _, t, rfl, hm, hc, hd⟩
section
variable {prog : Program} {w : World} {A : Around} {E : Value → Shared → Prop} {s : Shared}
/-- sorted of one item -/
theorem sorted_one {l : Addr} {v : Value} {Q : Value → Shared → Prop} (hl : s.heap.IsList l [v].toArray)
    (h : ∀ out : Array Value, out.toList = [v] → Q (.ref (s.heap.objs.size + 1)) { s with heap := sortedAll s.heap [v] out }) : wpAny (model prog w) A (call (.builtin "sorted") [.ref l]) Q E s := by
  refine Calls.call_function_entry kind_sorted plain_sorted entry_sorted (args_sorted1 _) ?_
  unfold Builtin.«sorted»
  refine wpAny_bind (m := checkCount "sorted" 1 1 _) (wpAny_pure ?_)
  refine wpAny_bind (collect_list hl ?_)
  refine wpAny_bind (wpAny_newList ?_)
  have hsz : ((s.heap.push (seqObj "list" #[] 0)).update s.heap.objs.size (Obj.mapSeq (· ++ [v].toArray))).objs.size = s.heap.objs.size + 1 := by
    rw [Heap.size_update, size_push']
  have hoL : (((s.heap.push (seqObj "list" #[] 0)).update s.heap.objs.size (Obj.mapSeq (· ++ [v].toArray))).push (seqObj "list" [v].toArray 0)).get? (s.heap.objs.size + 1) = some (seqObj "list" [v].toArray 0) := by
    rw [← hsz]; exact Heap.get?_push_size _ rfl
  show wpAny _ _ _ _ _ { s with heap := ((s.heap.push (seqObj "list" #[] 0)).update s.heap.objs.size (Obj.mapSeq (· ++ [v].toArray))).push (seqObj "list" [v].toArray 0) }
  rw [hsz]
  generalize hg : ((s.heap.push (seqObj "list" #[] 0)).update s.heap.objs.size (Obj.mapSeq (· ++ [v].toArray))).push (seqObj "list" [v].toArray 0) = H at hoL
  refine wpAny_bind (wpAny_holding (wpAny_call_entry slot_list_sort ⟨_, hoL, rfl⟩ entry_list_sort ?body (args_list_sort _)))
  case body =>
    rw [list_sort_plain]
    have ha : s.heap.objs.size + 1 < H.objs.size := Heap.lt_size hoL
    refine wpAny_bind (listItems_at hoL rfl ?_)
    refine wpAny_bind (listUpdate_at hoL rfl ?_)
    obtain ⟨e1, ho1⟩ : ∃ e1, (H.update (s.heap.objs.size + 1) (Obj.mapSeq fun _ => #[])).get? (s.heap.objs.size + 1) = some (seqObj "list" #[] e1) := ⟨_, get?_update_seq hoL (fun _ => #[])⟩
    refine wpAny_bind (seqEpoch_at ho1 rfl ?_)
    refine wpAny_bind (wpAny_newTuple ?_)
    refine wpAny_bind (wpAny_newList ?_)
    refine wpAny_holding ?_
    have ho6 : (((H.update (s.heap.objs.size + 1) (Obj.mapSeq fun _ => #[])).push (seqObj "tuple" [v].toArray 0)).push (seqObj "list" #[] 0)).get? (s.heap.objs.size + 1) = some (seqObj "list" #[] e1) := by
      rw [Heap.get?_push_ne _ _ _ (by rw [size_push', Heap.size_update]; exact Nat.ne_of_lt (Nat.lt_succ_of_lt ha)), Heap.get?_push_ne _ _ _ (by rw [Heap.size_update]; exact Nat.ne_of_lt ha)]
      exact ho1
    show wpAny (model prog w) _ _ _ _ { s with heap := ((H.update (s.heap.objs.size + 1) (Obj.mapSeq fun _ => #[])).push (seqObj "tuple" [v].toArray 0)).push (seqObj "list" #[] 0) }
    dsimp only
    have h2 : [v].toArray.size < 2 := by simp
    rw [if_pos h2, if_pos h2]
    refine wpAny_bind (wpAny_pure ?_)
    rw [StateT.run_pure]
    refine wpAny_bind (wpAny_pure ?_)
    dsimp only
    refine wpAny_bind (seqEpoch_at ho6 rfl ?_)
    refine wpAny_bind (listUpdate_at ho6 rfl ?_ (hsz2 := by rw [Array.size_map]; show ([v].toArray.zip [v].toArray).size ≤ _; rw [sizeLine_eq]; simp))
    simp only [bne_self_eq_false, Bool.false_eq_true, if_false]
    refine wpAny_pure ⟨_, rfl, ?_⟩
    refine wpAny_pure ⟨_, rfl, ?_⟩
    have := h ((arrOf (SortSt.mk' general' ([v].toArray.zip [v].toArray) #[] 7 none)).map (·.2)) (show (([v].toArray.zip [v].toArray).map (·.2)).toList = [v] by simp)
    unfold sortedAll sortedHeap at this
    rw [hg] at this
    exact this
end

section
variable {C : Cx} {A : Around} {F : Fx} {ρ : List Slot}
theorem katTups_of {Z : Led} {h : Heap} (H : HasL h Z) : ∀ {vs : List Value} {ds : List PyData} {ks : List Int}, Rps Z vs ds → Keyds ks ds → ∃ fs, KatTups h vs fs ∧ fs.length = vs.length ∧ ∀ f ∈ fs, ∃ i t, f = .int i t
  | _, _, _, .nil, .nil => ⟨[], trivial, rfl, fun _ h => nomatch h⟩
  | _, _, _, .cons h1 r1, .cons h2 r2 => by
    obtain ⟨fs, a1, a2, a3⟩ := katTups_of H r1 r2
    obtain ⟨a, o, vs', n, t, rfl, hm, hc, hd⟩ := h2.at h1
    refine ⟨.int _ t :: fs, .cons (f := .int _ t) (H _ hm) hc hd (by simp; rfl) a1, by simp [a2], fun f hf => ?_⟩
    rcases List.mem_cons.mp hf with rfl | hf
    · exact ⟨_, _, rfl⟩
    · exact a3 f hf
theorem forall2_get {ks : List Int} {ds : List PyData} (h : Keyds ks ds) : ∀ {i : Nat} {d : PyData}, ds[i]? = some d → ∃ k, ks[i]? = some k ∧ Keyd k d := by
  induction h with
  | nil => intro i d hd; simp at hd
  | cons h1 _ ih =>
    intro i d hd
    cases i with
    | zero => simp at hd; subst hd; exact ⟨_, rfl, h1⟩
    | succ i => simp at hd; obtain ⟨k, a, b⟩ := ih hd; exact ⟨k, by simpa using a, b⟩
/-- sorted: the rows rise, the last item's day is another one -/
theorem EvC.sorted (hF : FxOK C A F) {x : Str} {np pos : Pos} {e : PySem.Expr} {rows : List PyData} {d : PyData} {ks : List Int} {k : Int} (hn : NmV C A (FS F ρ) F.env x (.builtin "sorted")) (ha : EvE C A (FS F ρ) F.env e (.list (rows ++ [d])))
    (hk : Keyds ks rows) (hd : Keyd k d) (hinc : ks.Pairwise (· < ·)) (hne : k ∉ ks) (h64 : rows.length < 63) {out : List PyData} (hout : ∀ l, l ≤ rows.length → (∀ t i, t < l → ks[t]? = some i → i < k) → (∀ t i, l ≤ t → ks[t]? = some i → k < i) → rows.take l ++ d :: rows.drop l = out)
    (he : starEach [e] F.env = (false, eval e F.env) :: starEach [] F.env := by with_unfolding_all rfl) : EvC C A F ρ (.Call (.Name x np) [e] [] pos) (.list out) := fun pin Z s K E hs hK => by
  have kl : ks.length = rows.length := hk.len
  refine Call_ (hn np Z s _ E ⟨pin, hs⟩ (PyProof.Rows.callWith_builtin1 (args_cons (ha Z s _ E ⟨pin, hs⟩ fun v Z1 s1 x1 r1 => args_nil ?_) he) he (by with_unfolding_all rfl)))
  have hst := hs.ext x1
  obtain ⟨m, muts, oa, hI⟩ := hst
  have H := hI.has
  obtain ⟨a, vs, rfl, hl, q⟩ := r1.listAt H
  have lv : vs.length = rows.length + 1 := by rw [q.length, List.length_append]; rfl
  by_cases h1 : rows = []
  · subst h1
    obtain ⟨v, rfl, rv⟩ : ∃ v, vs = [v] ∧ Rp Z1 v d := by
      cases q with
      | cons h r => cases r; exact ⟨_, rfl, h⟩
    refine sorted_one hl fun o' ho' => ?_
    have ho2 : o' = [v].toArray := by rw [← ho']
    subst ho2
    obtain ⟨e', he'⟩ := sortedAll_at s1.heap [v] [v].toArray
    have keep : ∀ b o, s1.heap.get? b = some o → (sortedAll s1.heap [v] [v].toArray).get? b = some o := fun b o e => sortedAll_old e
    have x2 : Ext Z1 s1 ((s1.heap.objs.size + 1, seqObj "list" [v].toArray e') :: Z1) { s1 with heap := sortedAll s1.heap [v] [v].toArray, toks := s1.toks } := .more keep (Heap.get?_none_of_le (Nat.le_succ _)) he'
    have hb := hout 0 (Nat.zero_le _) (fun t i ht => by omega) (fun t i _ hi => by
      have : ks = [] := by cases hk; rfl
      rw [this] at hi; simp at hi)
    refine hK _ _ _ ((hs.ext x1).ext x2) (x1.trans x2).fwd ?_
    rw [← hb]
    exact .list (.head _) rfl rfl (.cons (rv.mono fun p hp => .tail _ hp) .nil)
  · have hrp : 0 < rows.length := List.length_pos_iff.mpr h1
    obtain ⟨rv, tv, rfl⟩ : ∃ rv tv, vs = rv ++ [tv] := ⟨vs.dropLast, vs.getLast (by intro e; rw [e] at lv; simp at lv), (List.dropLast_concat_getLast _).symm⟩
    have lr : rv.length = rows.length := by simpa using lv
    have qr : Rps Z1 rv rows := by
      have := q.take rows.length
      simpa [← lr] using this
    have qt : Rp Z1 tv d := by
      have := q.drop rows.length
      rw [List.drop_append_of_le_length (by omega), List.drop_append_of_le_length (Nat.le_refl _), List.drop_length, ← lr, List.drop_length] at this
      cases this with | cons h _ => exact h
    have hall : Keyds (ks ++ [k]) (rows ++ [d]) := hk.append (.cons hd .nil)
    have hcmp : ∀ (A' : Around) (h' : Heap), HasL h' Z1 → CmpOK (rv ++ [tv]).length (fun i => (ks ++ [k]).getD i 0) { s1 with heap := h' } (kas_ask C.prog C.w A' (tuples' true) (rv ++ [tv])) := fun A' h' H' i j Cc hi hj hij hC => by
      obtain ⟨vi, hvi⟩ : ∃ v, (rv ++ [tv])[i]? = some v := ⟨_, List.getElem?_eq_getElem hi⟩
      obtain ⟨vj, hvj⟩ : ∃ v, (rv ++ [tv])[j]? = some v := ⟨_, List.getElem?_eq_getElem hj⟩
      obtain ⟨di, hdi, ri⟩ := q.getV hvi
      obtain ⟨dj, hdj, rj⟩ := q.getV hvj
      obtain ⟨ki, hki, kdi⟩ := forall2_get hall hdi
      obtain ⟨kj, hkj, kdj⟩ := forall2_get hall hdj
      obtain ⟨ai, oi, wi, ni, ti, rfl, mi, ci, dti⟩ := kdi.at ri
      obtain ⟨aj, oj, wj, nj, tj, rfl, mj, cj, dtj⟩ := kdj.at rj
      have nd : (ks ++ [k]).Nodup := List.nodup_append.mpr ⟨hinc.imp fun h => by omega, by simp, fun a ha b hb => by
        rw [List.mem_singleton.mp hb]; exact fun e => hne (e ▸ ha)⟩
      have hkne : ki ≠ kj := fun e => hij (by
        obtain ⟨p1, e1⟩ := List.getElem?_eq_some_iff.mp hki
        obtain ⟨p2, e2⟩ := List.getElem?_eq_some_iff.mp hkj
        exact (List.getElem_inj nd).mp (e1.trans (e.trans e2.symm)))
      simp only [List.getD_eq_getElem?_getD, hki, hkj, Option.getD_some] at hC
      show wpAny _ _ (keyLt' _ ((rv ++ [tv]).getD i .none) ((rv ++ [tv]).getD j .none)) _ _ _
      rw [List.getD_eq_getElem?_getD, List.getD_eq_getElem?_getD, hvi, hvj]
      refine kat_lt (H' _ mi) dti (H' _ mj) dtj ?_
      refine kat_cons (SeqAt.EqAt.int_int _ _ _ _ _ _ _ _ ?_)
      rw [show (ki == kj) = false by simpa using hkne]
      refine kat_no ?_
      exact oneLt_int hC
    refine kat_sorted (F := hI.fr) (news := pin ++ (muts ++ Z1)) (N := hI.nw) hl (by omega) (by omega) fun D e1 h' F' N' hlt => ?_
    have H' : HasL h' Z1 := fun p hp => (N' p (List.mem_cons_of_mem _ (List.mem_append_right _ (List.mem_append_right _ hp)))).1
    obtain ⟨fs, t1, t2, t3⟩ := katTups_of H' q hall
    refine kat_kind (T := .type "int") t1 (by omega) (fun f hf => by obtain ⟨i, t, rfl⟩ := t3 f hf; exact Looks.of_pure rfl) (by simp) ?_
    show (kas_sort _).kasWp (kas_ask C.prog C.w A.in1.in1 (tuples' true) _) _ _
    have ksl : (ks ++ [k]).length = rows.length + 1 := by rw [List.length_append, kl]; rfl
    have g1 : ∀ t, t < rows.length → (ks ++ [k]).getD t 0 = ks.getD t 0 ∧ ∃ i, ks[t]? = some i := fun t ht => by
      refine ⟨?_, _, List.getElem?_eq_getElem (by omega)⟩
      rw [List.getD_eq_getElem?_getD, List.getElem?_append_left (by omega), List.getD_eq_getElem?_getD]
    have g2 : (ks ++ [k]).getD rows.length 0 = k := by
      rw [List.getD_eq_getElem?_getD, List.getElem?_append_right (by omega), kl, Nat.sub_self]; rfl
    have hlen : (rv ++ [tv]).length = rows.length + 1 := lv
    refine sort_wp (hcmp A.in1.in1 h' H') (by omega) (fun a b hab hb => ?_) (fun t ht => ?_) fun l hl1 hl2 hl3 => ?_
    · have ha' : a < ks.length := by omega
      have hb' : b < ks.length := by omega
      rw [(g1 a (by omega)).1, (g1 b (by omega)).1, List.getD_eq_getElem?_getD, List.getD_eq_getElem?_getD, List.getElem?_eq_getElem ha', List.getElem?_eq_getElem hb']
      exact List.pairwise_iff_getElem.mp hinc a b ha' hb' hab
    · rw [hlen] at ht ⊢
      rw [Nat.add_sub_cancel, g2, (g1 t (by omega)).1]
      obtain ⟨_, i, hi⟩ := g1 t (by omega)
      rw [List.getD_eq_getElem?_getD, hi]
      exact fun e => hne (e ▸ List.mem_of_getElem? hi)
    · simp only [hlen] at hl1 hl2 hl3 ⊢
      simp only [Nat.add_sub_cancel, g2] at hl1 hl2 hl3
      have hb := hout l hl1 (fun t i ht hi => by
        have := hl2 t ht
        rw [(g1 t (by omega)).1, List.getD_eq_getElem?_getD, hi] at this; exact this) (fun t i ht hi => by
        have hti := (List.getElem?_eq_some_iff.mp hi).1
        have := hl3 t ht (by omega)
        rw [(g1 t (by omega)).1, List.getD_eq_getElem?_getD, hi] at this; exact this)
      have hp := perm_out (rv := rv) (tv := tv) (l := l) (by omega)
      rw [lr] at hp
      rw [hp]
      refine KasFin.intro F' N' (.head fun p hp => Nat.ne_of_lt (hlt p hp)) fun h2 c F2 N2 => ?_
      have hnD : ∀ p ∈ pin ++ (muts ++ Z1), p.1 ≠ D := fun p hp => Nat.ne_of_lt (hlt p hp)
      refine hK _ ((D, listOf (List.toArray (rv.take l ++ tv :: rv.drop l)) c) :: Z1) _ ⟨m, muts, oa, F2, fun p hp => N2 p ?_, fun p hp q' hq' => ?_, fun p hp q' hq' => ?_, fun i y sl hi hs' => (hI.slots i y sl hi hs').ext fun p hp => .tail _ hp, hI.inj, hI.cells⟩ ?_ ?_
      · simp only [List.mem_append, List.mem_cons] at hp ⊢
        rcases hp with h | h | h | h
        · exact .inr (.inl h)
        · exact .inr (.inr (.inl h))
        · exact .inl h
        · exact .inr (.inr (.inr h))
      · simp only [List.mem_append, List.mem_cons] at hq'
        rcases hq' with h | rfl | h
        · exact hI.d1 p hp q' (by simp [h])
        · exact hnD p (by simp [hp])
        · exact hI.d1 p hp q' (by simp [h])
      · rcases List.mem_cons.mp hq' with rfl | h
        · exact hnD p (by simp [hp])
        · exact hI.d2 p hp q' h
      · exact x1.fwd.trans ⟨⟨h2, s1.toks, rfl⟩, fun p hp => .tail _ hp⟩
      · rw [← hb]
        exact .list (.head _) rfl rfl (((qr.take l).append (.cons qt (qr.drop l))).mono fun p hp => .tail _ hp)
theorem Ex1.assignC (hF : FxOK C A F) {ρ' : List Slot} {x : Str} {px pos : Pos} {e : PySem.Expr} {d : PyData} {i : Nat} {Q : Out → Prop} (he : EvC C A F ρ e d) (hu : Upd F.ns ρ x (.dat d) i ρ') (hq : Q (.next ρ'))
    (hs : swapsWith e (some (.Name x px)) pos.line F.env = pure false := by with_unfolding_all rfl) : Ex1 C A F ρ (.Assign [.Name x px] e pos) Q := fun pin Z s K hst hK =>
  wpAny_Assign_Name (he pin Z s _ _ hst fun v Z' s' x w r => store_dat hF x hu r fun s'' h'' w' => hK _ _ Z' s'' hq ⟨rfl, h''⟩ (w.trans w')) hs
end
end Mine

namespace Mine
open PySem PySem.W PySem.Spec PySem.Calls PyProof.Rows
local macro_rules | `(tactic| walk_at "init") => `(tactic| ((simp only [List.map_cons, List.map_nil, List.cons_append, List.nil_append, List.append_nil]); (change ExS _ _ _ _ (_ :: _) _)))
local macro_rules | `(tactic| walk_at "var") => `(tactic| with_reducible first | exact Var.here | (refine' Var.there ?h; case h => walk_at "var"))
local macro_rules | `(tactic| walk_at "upd") => `(tactic| with_reducible first | exact Upd.here | (refine' Upd.there ?h; case h => walk_at "upd"))
local macro_rules | `(tactic| walk_at "mem") => `(tactic| with_reducible first | exact List.mem_cons_self | (refine List.mem_cons_of_mem _ ?_; walk_at "mem"))
local macro_rules | `(tactic| walk_at "asgl") => `(tactic| with_reducible first | exact AsgL.nil | (refine' AsgL.cons ?g ?h; (case g => walk_at "upd"); (case h => walk_at "asgl")))
local macro_rules | `(tactic| walk_at "side") => `(tactic| first | omega | decide | assumption | ((simp only [List.length_map, List.length_append, List.length_cons, List.length_nil]); omega))
local macro_rules | `(tactic| walk_at "bin") => `(tactic| first | (with_reducible exact BinR.add) | (with_reducible exact BinR.sub) | ((with_reducible refine BinR.mul ?_); walk_at "side") | ((with_reducible refine BinR.fdiv ?_ ?_) <;> walk_at "side") | ((with_reducible refine BinR.mod ?_); walk_at "side") | ((with_reducible refine' BinR.pow ?p1 ?p2 ?p3 ?p4); (case p4 => first | (simp only [Int.reduceToNat, Int.reducePow]; done) | (simp only [Int.reduceToNat, Int.reducePow]; exact rfl)); (case p1 => decide); (case p2 => decide); (case p3 => decide)) | ((with_reducible refine BinR.addL ?_); walk_at "side") | ((with_reducible refine BinR.addT ?_); walk_at "side"))
local macro_rules | `(tactic| walk_at "cmp") => `(tactic| with_reducible first | exact CmpR.lt | exact CmpR.le | exact CmpR.gt | exact CmpR.ge | exact CmpR.eq_int | exact CmpR.ne_int | exact CmpR.eq_str | exact CmpR.ne_str | exact CmpR.is_none | exact CmpR.is_tup | ((refine CmpR.eq ?_ ?_) <;> walk_at "shp") | ((refine CmpR.ne ?_ ?_) <;> walk_at "shp") | ((refine CmpR.isIn ?_ ?_) <;> walk_at "shp"))
local macro_rules | `(tactic| walk_at "shp1") => `(tactic| with_reducible first | exact Shp.int | exact Shp.bool | exact Shp.none | exact Shp.str (by decide) | assumption | (refine Shp.list ?_; walk_at "shps") | (refine Shp.tuple ?_; walk_at "shps"))
local macro_rules | `(tactic| walk_at "shps") => `(tactic| with_reducible first | exact shp_nil | assumption | (refine' shp_cons ?sa ?sb; (case sa => walk_at "shp1"); (case sb => walk_at "shps")))
local macro_rules | `(tactic| walk_at "shp") => `(tactic| first | assumption | ((with_reducible refine Shp.shaped (n := 5) ?_); walk_at "shp1"))
local macro_rules | `(tactic| walk_at "fn") => `(tactic| fail "no contract")
local macro_rules | `(tactic| walk_at "bifn") => `(tactic| first | (with_reducible exact V.bmax (by assumption)) | (with_reducible exact V.bmin (by assumption)) | ((with_reducible refine bi_len (by first | exact .inl rfl | exact .inr rfl) ?_); walk_at "side") | ((with_reducible refine bi_list (by first | exact .inl rfl | exact .inr rfl) ?_); walk_at "side") | ((with_reducible refine bi_tuple ?_); walk_at "side"))
local macro_rules | `(tactic| walk_at "isi") => `(tactic| with_reducible first | exact V.IsiR.int_int | exact V.IsiR.int_bool | exact V.IsiR.tuple | exact V.IsiR.list | exact V.IsiR.bool_bool)
local macro_rules | `(tactic| walk_at "ev") => `(tactic| first
  | (with_reducible exact EvE.const_int)
  | (with_reducible exact EvE.const_str)
  | (with_reducible exact EvE.const_bool)
  | (with_reducible exact EvE.const_none)
  | ((with_reducible refine' V.var (by assumption) ?h); case h => walk_at "var")
  | ((with_reducible refine' V.bin (by assumption) ?a ?b ?c); (case a => walk_at "ev"); (case b => walk_at "ev"); (case c => walk_at "bin"))
  | ((with_reducible refine' V.cmp (by assumption) ?a ?b ?c); (case a => walk_at "ev"); (case b => walk_at "ev"); (case c => walk_at "cmp"))
  | ((with_reducible refine' V.isi (by assumption) (by walk_at "mem") (by walk_at "bi") (by walk_at "mem") (by walk_at "bi") ?a ?b); (case a => walk_at "ev"); (case b => walk_at "isi"))
  | ((with_reducible refine' V.call (by assumption) (by walk_at "mem") ?g ?f ?a ?b ?c); (case g => walk_at "gl"); (case f => walk_at "isfn"); (case a => walk_at "evs"); (case b => walk_at "fn"); (case c => decide))
  | ((with_reducible refine' V.callB (by assumption) (by walk_at "mem") ?g ?a ?b); (case g => walk_at "bi"); (case a => walk_at "evs"); (case b => walk_at "bifn"))
  | ((with_reducible refine' V.callT (by assumption) (by walk_at "mem") ?g ?a ?b); (case g => walk_at "bi"); (case a => walk_at "evs"); (case b => walk_at "bifn"))
  | ((with_reducible refine' V.tuple (by assumption) ?a ?z); (case a => walk_at "evs"); (case z => walk_at "side"))
  | ((with_reducible refine' V.list (by assumption) ?a ?z); (case a => walk_at "evs"); (case z => walk_at "side"))
  | ((with_reducible refine' V.neg (by assumption) ?a); (case a => walk_at "ev"))
  | ((with_reducible refine' V.not (by assumption) ?a); (case a => walk_at "ev"))
  | ((with_reducible refine' V.and (by assumption) ?a ?b); (case a => walk_at "ev"); (case b => intro _; walk_at "ev"))
  | ((with_reducible refine' V.or (by assumption) ?a ?b); (case a => walk_at "ev"); (case b => intro _; walk_at "ev"))
  | ((with_reducible refine' EvE.bool_one ?a); (case a => walk_at "ev"))
  | ((with_reducible refine' V.ownItem (by assumption) ?v ?a ?b ?c ?d); (case v => walk_at "var"); (case a => walk_at "ev"); (case b => walk_at "side"); (case c => walk_at "idx"); (case d => walk_at "get"))
  | ((with_reducible refine' V.item (by assumption) ?a ?b ?c ?d ?e ?f); (case a => walk_at "ev"); (case b => walk_at "ev"); (case c => first | exact .inl rfl | exact .inr rfl); (case d => walk_at "side"); (case e => walk_at "idx"); (case f => walk_at "get")))
local macro_rules | `(tactic| walk_at "idx") => `(tactic| first | rfl | (refine idx_pos ?_ ?_ <;> walk_at "side") | (refine idx_neg ?_ ?_ <;> walk_at "side"))
local macro_rules | `(tactic| walk_at "get") => `(tactic| first | rfl | assumption)
local macro_rules | `(tactic| walk_at "evs") => `(tactic| first
  | (with_reducible exact EvEs.nil)
  | ((with_reducible refine' V.cons (by assumption) ?a ?b); (case a => walk_at "ev"); (case b => walk_at "evs")))
local macro_rules | `(tactic| walk_at "evb") => `(tactic| first
  | ((with_reducible refine' V.cmpB (by assumption) ?a ?b ?c); (case a => walk_at "ev"); (case b => walk_at "ev"); (case c => walk_at "cmp"))
  | ((with_reducible refine' V.chain2 (by assumption) ?a ?b ?c ?d ?e); (case a => walk_at "ev"); (case b => walk_at "ev"); (case c => walk_at "ev"); (case d => walk_at "cmp"); (case e => walk_at "cmp"))
  | ((with_reducible refine' EvB.not ?a); (case a => walk_at "evb"))
  | (with_reducible exact EvB.and_nil)
  | (with_reducible exact EvB.or_nil)
  | ((with_reducible refine' V.andB (by assumption) ?a ?b); (case a => walk_at "evb"); (case b => intro _; walk_at "evb"))
  | ((with_reducible refine' V.orB (by assumption) ?a ?b); (case a => walk_at "evb"); (case b => intro _; walk_at "evb"))
  | ((with_reducible refine' V.plainB (by assumption) ?a); (case a => walk_at "ev")))
local macro_rules | `(tactic| walk_at "q") => `(tactic| with_reducible first
  | exact RetQ.next
  | (refine RetQ.ret ?_; try (first | with_reducible rfl | simp only [Bool.and_true, Bool.not_false, Bool.and_self, Bool.true_and]))
  | (refine Then.ret ?_; walk_at "q")
  | (refine Then.cont ?_; walk_at "q")
  | (refine Then.next ?_; try (walk_at "nil"))
  | (refine LoopQ.ret ?_; walk_at "q")
  | (refine LoopJ.ret ?_; walk_at "q")
  | (refine LoopJ.next ?_)
  | (refine LoopJ.cont ?_)
  | (refine LoopQ.next ?_)
  | (refine LoopQ.cont ?_))
local macro_rules | `(tactic| walk_at "nil") => `(tactic| with_reducible (refine ExS.nil ?_; walk_at "q"))
local macro_rules | `(tactic| walk_at "assign") => `(tactic| ((with_reducible refine' ExS.cons (V.assign (by assumption) ?a ?b ?c)); (case a => walk_at "ev"); (case b => walk_at "upd"); walk_at "q"))
local macro_rules | `(tactic| walk_at "unpack") => `(tactic| ((with_reducible refine' ExS.cons (V.unpack (by assumption) ?a ?b ?c)); (case a => walk_at "ev"); (case b => walk_at "asgl"); walk_at "q"))
local macro_rules | `(tactic| walk_at "own") => `(tactic| ((with_reducible refine' ExS.cons (V.assignOwn (by assumption) ?a ?b ?z ?c)); (case a => walk_at "evs"); (case b => walk_at "upd"); (case z => walk_at "side"); walk_at "q"))
local macro_rules | `(tactic| walk_at "append") => `(tactic| ((with_reducible refine' ExS.cons (V.append (by assumption) ?v ?a ?b ?z ?c)); (case v => walk_at "var"); (case a => walk_at "ev"); (case b => walk_at "upd"); (case z => walk_at "side"); walk_at "q"))
local macro_rules | `(tactic| walk_at "ret") => `(tactic| ((with_reducible refine' ExS.cons (Ex1.ret ?a ?b)); (case a => walk_at "ev"); walk_at "q"))
local macro_rules | `(tactic| walk_at "cont") => `(tactic| ((with_reducible refine ExS.cons (Ex1.continue_ ?_)); walk_at "q"))
local macro_rules | `(tactic| walk_at "ite") => `(tactic| ((with_reducible refine' ExS.cons (Ex1.ite ?t ?x ?y)); (case t => walk_at "evb")))
local macro_rules | `(tactic| walk_at "uev") => `(tactic| first
  | (with_reducible exact EvE.const_int)
  | ((with_reducible refine' U.var (by assumption) ?a ?b); (case a => walk_at "mem"); (case b => walk_at "mem"))
  | ((with_reducible refine' Cap.ev (by assumption) ?h); (case h => walk_at "var"))
  | ((with_reducible refine' U.bin (by assumption) ?a ?b ?c); (case a => walk_at "uev"); (case b => walk_at "uev"); (case c => walk_at "bin"))
  | ((with_reducible refine' U.call (by assumption) (by walk_at "mem") ?g ?f ?a ?b ?c); (case g => walk_at "gl"); (case f => walk_at "isfn"); (case a => walk_at "uevs"); (case b => walk_at "fn"); (case c => decide))
  | ((with_reducible refine' U.item (by assumption) ?a ?b ?c ?d ?e ?f); (case a => walk_at "uev"); (case b => walk_at "uev"); (case c => first | exact .inl rfl | exact .inr rfl); (case d => walk_at "side"); (case e => walk_at "idx"); (case f => walk_at "get")))
local macro_rules | `(tactic| walk_at "uevs") => `(tactic| first
  | (with_reducible exact EvEs.nil)
  | ((with_reducible refine' U.cons (by assumption) ?a ?b); (case a => walk_at "uev"); (case b => walk_at "uevs")))
local macro_rules | `(tactic| walk_at "uevb") => `(tactic| first
  | ((with_reducible refine' U.cmpB (by assumption) ?a ?b ?c); (case a => walk_at "uev"); (case b => walk_at "uev"); (case c => walk_at "cmp")))
noncomputable abbrev pw := PySem.Challenge.pw_uf050026_03
noncomputable abbrev Df (C : Cx) (f : Addr) (st : PySem.Stmt) : Prop := DefAt C f (fdParams st) (fdBody st) (fdScope st)
set_option genInjectivity false in
set_option genSizeOf false in
structure PG (C : Cx) where
  a_with_tariff : Addr
  g_with_tariff : Gl C "with_tariff" a_with_tariff
  d_with_tariff : Df C a_with_tariff (stmtAt pw 8)
  a_tariff_on : Addr
  g_tariff_on : Gl C "tariff_on" a_tariff_on
  d_tariff_on : Df C a_tariff_on (stmtAt pw 9)
  a_cost : Addr
  g_cost : Gl C "cost" a_cost
  d_cost : Df C a_cost (stmtAt pw 10)
  a_l_cell_at : Addr
  g_l_cell_at : Gl C "_law_cell_at" a_l_cell_at
  d_l_cell_at : Df C a_l_cell_at (stmtAt pw 12)
  a_l_mixed : Addr
  g_l_mixed : Gl C "_law_mixed" a_l_mixed
  d_l_mixed : Df C a_l_mixed (stmtAt pw 13)
  a_l_whole : Addr
  g_l_whole : Gl C "_law_whole" a_l_whole
  d_l_whole : Df C a_l_whole (stmtAt pw 14)
  a_l_tariff_by : Addr
  g_l_tariff_by : Gl C "_law_tariff_by" a_l_tariff_by
  d_l_tariff_by : Df C a_l_tariff_by (stmtAt pw 15)
  a_l_refused : Addr
  g_l_refused : Gl C "_law_refused" a_l_refused
  d_l_refused : Df C a_l_refused (stmtAt pw 16)
  a_l_cost_right : Addr
  g_l_cost_right : Gl C "_law_cost_right" a_l_cost_right
  d_l_cost_right : Df C a_l_cost_right (stmtAt pw 17)
  a_law : Addr
  g_law : Gl C "law" a_law
  d_law : Df C a_law (stmtAt pw 18)
  c_MeterError : Addr
  k_MeterError : Gl C "MeterError" c_MeterError
  c_NoMeter : Addr
  k_NoMeter : Gl C "NoMeter" c_NoMeter
  c_StandsAlready : Addr
  k_StandsAlready : Gl C "StandsAlready" c_StandsAlready
  c_NotLater : Addr
  k_NotLater : Gl C "NotLater" c_NotLater
  c_NoValue : Addr
  k_NoValue : Gl C "NoValue" c_NoValue
  c_NoReading : Addr
  k_NoReading : Gl C "NoReading" c_NoReading
  e_StandsAlready : ("StandsAlready" : Str) ∈ C.exs
  x_StandsAlready : ExcK C.K c_StandsAlready
  m_StandsAlready : exmOne C.K (.ref c_StandsAlready) (.ref c_MeterError) = some true
  v_StandsAlready : kitOne C.K (.ref c_StandsAlready) (.type "ValueError") = some true
  i_StandsAlready_NoMeter : kitOne C.K (.ref c_StandsAlready) (.ref c_NoMeter) = some false
  i_StandsAlready_StandsAlready : kitOne C.K (.ref c_StandsAlready) (.ref c_StandsAlready) = some true
  i_StandsAlready_NotLater : kitOne C.K (.ref c_StandsAlready) (.ref c_NotLater) = some false
  i_StandsAlready_NoValue : kitOne C.K (.ref c_StandsAlready) (.ref c_NoValue) = some false
  i_StandsAlready_NoReading : kitOne C.K (.ref c_StandsAlready) (.ref c_NoReading) = some false
  b_len : Bi C "len" (.builtin "len")
  b_min : Bi C "min" (.builtin "min")
  b_max : Bi C "max" (.builtin "max")
  b_isinstance : Bi C "isinstance" (.builtin "isinstance")
  b_sorted : Bi C "sorted" (.builtin "sorted")
  b_list : Bi C "list" (.type "list")
  b_tuple : Bi C "tuple" (.type "tuple")
  b_range : Bi C "range" (.type "range")
  b_int : Bi C "int" (.type "int")
  b_bool : Bi C "bool" (.type "bool")
  b_ValueError : Bi C "ValueError" (.type "ValueError")
local macro_rules | `(tactic| walk_at "gl") => `(tactic| with_reducible first | exact (PG.g_with_tariff ‹PG _›) | exact (PG.g_tariff_on ‹PG _›) | exact (PG.g_cost ‹PG _›) | exact (PG.g_l_cell_at ‹PG _›) | exact (PG.g_l_mixed ‹PG _›) | exact (PG.g_l_whole ‹PG _›) | exact (PG.g_l_tariff_by ‹PG _›) | exact (PG.g_l_refused ‹PG _›) | exact (PG.g_l_cost_right ‹PG _›) | exact (PG.g_law ‹PG _›))
local macro_rules | `(tactic| walk_at "isfn") => `(tactic| with_reducible first | exact (PG.d_with_tariff ‹PG _›).isFn | exact (PG.d_tariff_on ‹PG _›).isFn | exact (PG.d_cost ‹PG _›).isFn | exact (PG.d_l_cell_at ‹PG _›).isFn | exact (PG.d_l_mixed ‹PG _›).isFn | exact (PG.d_l_whole ‹PG _›).isFn | exact (PG.d_l_tariff_by ‹PG _›).isFn | exact (PG.d_l_refused ‹PG _›).isFn | exact (PG.d_l_cost_right ‹PG _›).isFn | exact (PG.d_law ‹PG _›).isFn)
local macro_rules | `(tactic| walk_at "bi") => `(tactic| with_reducible first | exact (PG.b_len ‹PG _›) | exact (PG.b_min ‹PG _›) | exact (PG.b_max ‹PG _›) | exact (PG.b_isinstance ‹PG _›) | exact (PG.b_sorted ‹PG _›) | exact (PG.b_list ‹PG _›) | exact (PG.b_tuple ‹PG _›) | exact (PG.b_range ‹PG _›) | exact (PG.b_int ‹PG _›) | exact (PG.b_bool ‹PG _›) | exact (PG.b_ValueError ‹PG _›))
/-! ## Plain functions: what the law builds -/
noncomputable def scr (ns : List Int) : PyData := .list (ns.map .int)
noncomputable def cellAt (ns : List Int) (k : Int) : Int := ns.getD k.toNat 0
noncomputable def mixCell (ns : List Int) (k : Int) : Int := if ns.length = 0 then 0 else ns.getD (k % (ns.length : Int)).toNat 0
noncomputable def mixNum (ns : List Int) (k : Int) : Int := (mixCell ns k + 7919 * k) * 48271 % 2147483647
noncomputable def mixed (ns : List Int) (k : Int) : Int := mixNum ns k * mixNum ns k % 2147483647
theorem mixNum_bd (ns : List Int) (k : Int) : 0 ≤ mixNum ns k ∧ mixNum ns k < 2147483647 := by unfold mixNum; omega
theorem mixed_bd (ns : List Int) (k : Int) : 0 ≤ mixed ns k ∧ mixed ns k < 2147483647 := by unfold mixed; omega
noncomputable def sizes : List Int := [2, 10, 100, 1000, 100000, 1000000000000, 7, 60]
noncomputable def sizeBy (n : Int) : Int := if n % 4 = 3 then 2 + n * n % 999999999999 else sizes.getD (n / 4 % 8).toNat 0
noncomputable def mosts : List Int := [0, 1, 3, 10, 40, 1000000000000, 100]
noncomputable def mostBy (c : Int) : Int := if c % 8 = 7 then c / 8 % 1000000000001 else mosts.getD (c % 8).toNat 0
theorem getD_mem {α : Type} {l : List α} {i : Nat} {d : α} (h : i < l.length) : l.getD i d ∈ l := by
  rw [List.getD_eq_getElem?_getD, List.getElem?_eq_getElem h]; exact List.getElem_mem h
theorem sizeBy_bd (n : Int) : 2 ≤ sizeBy n ∧ sizeBy n ≤ 1000000000000 := by
  unfold sizeBy
  split
  · omega
  · have h : (n / 4 % 8).toNat < sizes.length := by show _ < 8; omega
    have := getD_mem (d := (0 : Int)) h
    have all : ∀ x ∈ sizes, 2 ≤ x ∧ x ≤ 1000000000000 := by decide
    exact all _ this
theorem mostBy_bd (c : Int) : 0 ≤ mostBy c ∧ mostBy c ≤ 1000000000000 := by
  unfold mostBy
  split
  · omega
  · have h : (c % 8).toNat < mosts.length := by show _ < 7; omega
    have := getD_mem (d := (0 : Int)) h
    have all : ∀ x ∈ mosts, 0 ≤ x ∧ x ≤ 1000000000000 := by decide
    exact all _ this
theorem ints_get {l : List Int} {i : Nat} (h : i < l.length) : (l.map PyData.int)[i]? = some (.int (l.getD i 0)) := by
  rw [List.getElem?_map, List.getElem?_eq_getElem h, List.getD_eq_getElem?_getD, List.getElem?_eq_getElem h]; rfl
noncomputable def forBody : PySem.Stmt → List PySem.Stmt
  | .For _ _ b _ _ => b
  | _ => []

/-! ## The law's helpers -/
section
variable {C : Cx} (G : PG C)

theorem cell_at_ok {ns : List Int} {k : Int} (hz : ns.length ≤ 2 ^ 20) (h0 : 0 ≤ k) : FnOK C G.a_l_cell_at 1 [scr ns, .int k] (.int (cellAt ns k)) := by
  refine FnOK.of (stmtAt pw 12) ["_law_script", "_law_k"] ["len"] _ [] G.d_l_cell_at rfl rfl (by decide +kernel) fun A F W => ?_
  walk_at "init"
  unfold scr
  walk_at "ite"
  case x =>
    intro hb
    simp only [List.length_map, decide_eq_true_eq] at hb
    refine ExS.cons (Ex1.ret ?_ (.ret (.ret rfl)))
    refine V.item W (ds := ns.map .int) ?_ ?_ (.inl rfl) (by rw [List.length_map]; omega) (idx_pos h0 (by rw [List.length_map]; omega)) (ints_get (by omega))
    · walk_at "ev"
    · walk_at "ev"
  case y =>
    intro hb
    simp only [List.length_map, decide_eq_false_iff_not] at hb
    walk_at "nil"
    walk_at "ret"
    unfold cellAt
    rw [List.getD_eq_getElem?_getD, List.getElem?_eq_none (by omega)]; rfl
end

section
variable {C : Cx} (G : PG C)

theorem mixed_ok {ns : List Int} {k : Int} (hz : ns.length ≤ 2 ^ 20) (h0 : 0 ≤ k) (h1 : k < 2 ^ 40) : FnOK C G.a_l_mixed 1 [scr ns, .int k] (.int (mixed ns k)) := by
  refine FnOK.of (stmtAt pw 13) ["_law_script", "_law_k", "_law_cell", "_law_number"] ["len"] _ ["_law_cell", "_law_number"] G.d_l_mixed rfl rfl (by decide +kernel) fun A F W => ?_
  walk_at "init"
  unfold scr
  have hm := mixNum_bd ns k
  have rest : ExS C A F [.dat (.list (ns.map .int)), .dat (.int k), .dat (.int (mixCell ns k)), .undef] (fdBody (stmtAt pw 13)).tail.tail (RetQ (.int (mixed ns k))) := by
    change ExS _ _ _ _ (_ :: _) _
    walk_at "assign"
    change ExS C A F [_, _, _, .dat (.int (mixNum ns k))] _ _
    walk_at "ret"
    rfl
  walk_at "assign"
  walk_at "ite"
  case x =>
    intro hb
    simp only [List.length_map, decide_eq_true_eq] at hb
    have h2 : 0 < (ns.length : Int) := by omega
    have h3 : 0 ≤ k % (ns.length : Int) := Int.emod_nonneg _ (by omega)
    have h4 : k % (ns.length : Int) < ns.length := Int.emod_lt_of_pos _ h2
    refine' ExS.cons (V.assign W (d := .int (mixCell ns k)) ?a2 ?b2 ?c2)
    case a2 =>
      refine V.item W (ds := ns.map .int) (i := k % (ns.length : Int)) ?_ ?_ (.inl rfl) (by rw [List.length_map]; omega) (idx_pos h3 (by rw [List.length_map]; exact h4)) ?_
      · walk_at "ev"
      · refine' V.bin W ?p1 ?q1 (d2 := .int (ns.length : Int)) ?r1
        case p1 => walk_at "ev"
        case q1 =>
          have := List.length_map (as := ns) PyData.int
          rw [← this]
          walk_at "ev"
        case r1 => exact BinR.mod h2
      · rw [ints_get (by omega)]
        unfold mixCell
        rw [if_neg (by omega)]
    case b2 => walk_at "upd"
    case c2 => exact .next (.nil (.next rest))
  case y =>
    intro hb
    simp only [List.length_map, decide_eq_false_iff_not] at hb
    have : mixCell ns k = 0 := by unfold mixCell; rw [if_pos (by omega)]
    rw [this] at rest
    exact .nil (.next rest)
end

section
variable {C : Cx} (G : PG C)
theorem whole_ok {i : Int} : FnOK C G.a_l_whole 1 [.int i] (.bool true) := by
  refine FnOK.of (stmtAt pw 14) ["_law_found"] ["isinstance", "int", "bool"] _ [] G.d_l_whole rfl rfl (by decide +kernel) fun A F W => ?_
  walk_at "init"
  walk_at "ret"
end

theorem V.pick {C : Cx} {A : Around} {F : Fx} {k : Nat} {ns gs : List Str} {ρ : List Slot} (W : Wk C A F k ns gs) {value slice : PySem.Expr} {pos : Pos} (l : List Int) {i : Int} (h1 : EvE C A (FS F ρ) F.env value (.list (l.map .int))) (h2 : EvE C A (FS F ρ) F.env slice (.int i)) (h0 : 0 ≤ i) (hl : i < l.length) (hz : l.length ≤ 1000)
    (hs : notSlice slice = true := by with_unfolding_all rfl) : EvE C A (FS F ρ) F.env (.Subscript value slice pos) (.int (l.getD i.toNat 0)) :=
  V.item W h1 h2 (.inl rfl) (by rw [List.length_map]; omega) (idx_pos h0 (by rw [List.length_map]; exact hl)) (ints_get (by omega)) hs

/-! ## Tariffs -/
structure Tar where
  day : Int
  st : Int
  low : Int
  lim : Int
  high : Int
noncomputable def Tar.flds (t : Tar) : List PyData := [.int t.day, .int t.st, .int t.low, .int t.lim, .int t.high]
noncomputable def Tar.py (t : Tar) : PyData := .tuple t.flds
noncomputable def tpy (r : List Tar) : PyData := .tuple (r.map Tar.py)
structure TOk (t : Tar) : Prop where
  st : 0 ≤ t.st ∧ t.st ≤ 1000000001
  low : 0 ≤ t.low ∧ t.low ≤ 1000000001
  lim : 0 ≤ t.lim ∧ t.lim ≤ 1000000000001
  high : 0 ≤ t.high ∧ t.high ≤ 1000000001
noncomputable def Inc (r : List Tar) : Prop := (r.map Tar.day).Pairwise (· < ·)
noncomputable def ins (r : List Tar) (t : Tar) : List Tar := r.filter (fun x => decide (x.day < t.day)) ++ [t] ++ r.filter (fun x => decide (t.day < x.day))
theorem Tar.shp (t : Tar) {n : Nat} : Shp (n + 1) t.py := .tuple (shp_cons .int (shp_cons .int (shp_cons .int (shp_cons .int (shp_cons .int shp_nil)))))
theorem tars_shp {r : List Tar} {n : Nat} : ∀ x ∈ r.map Tar.py, Shp (n + 1) x := fun x hx => by
  obtain ⟨e, _, rfl⟩ := List.mem_map.mp hx
  exact e.shp
theorem tar_keyds : ∀ r : List Tar, Keyds (r.map Tar.day) (r.map Tar.py)
  | [] => .nil
  | _ :: r => .cons .mk (tar_keyds r)
theorem ins_at {r : List Tar} {t : Tar} {l : Nat} (hl : l ≤ r.length) (h1 : ∀ i x, i < l → (r.map Tar.day)[i]? = some x → x < t.day) (h2 : ∀ i x, l ≤ i → (r.map Tar.day)[i]? = some x → t.day < x) :
    (r.map Tar.py).take l ++ t.py :: (r.map Tar.py).drop l = (ins r t).map Tar.py := by
  have a1 : ∀ x ∈ r.take l, x.day < t.day := fun x hx => by
    obtain ⟨i, hi⟩ := List.getElem?_of_mem hx
    have hlt : i < l := by
      have := (List.getElem?_eq_some_iff.mp hi).1
      rw [List.length_take] at this; omega
    rw [List.getElem?_take_of_lt hlt] at hi
    exact h1 i _ hlt (by rw [List.getElem?_map, hi]; rfl)
  have a2 : ∀ x ∈ r.drop l, t.day < x.day := fun x hx => by
    obtain ⟨i, hi⟩ := List.getElem?_of_mem hx
    rw [List.getElem?_drop] at hi
    exact h2 (l + i) _ (Nat.le_add_right ..) (by rw [List.getElem?_map, hi]; rfl)
  have e1 : r.filter (fun x => decide (x.day < t.day)) = r.take l := by
    conv => lhs; rw [← List.take_append_drop l r]
    rw [List.filter_append, List.filter_eq_self.mpr (fun x hx => decide_eq_true (a1 x hx)), List.filter_eq_nil_iff.mpr (fun x hx => by have := a2 x hx; simp; omega), List.append_nil]
  have e2 : r.filter (fun x => decide (t.day < x.day)) = r.drop l := by
    conv => lhs; rw [← List.take_append_drop l r]
    rw [List.filter_append, List.filter_eq_nil_iff.mpr (fun x hx => by have := a1 x hx; simp; omega), List.nil_append, List.filter_eq_self.mpr (fun x hx => decide_eq_true (a2 x hx))]
  unfold ins
  rw [e1, e2, List.append_assoc, List.map_append, List.map_take, List.singleton_append, List.map_cons, List.map_drop]
theorem ins_inc {r : List Tar} {t : Tar} (h : Inc r) : Inc (ins r t) := by
  unfold Inc ins at *
  rw [List.append_assoc, List.map_append, List.pairwise_append]
  refine ⟨h.sublist (List.filter_sublist.map _), ?_, fun a ha b hb => ?_⟩
  · rw [List.singleton_append, List.map_cons, List.pairwise_cons]
    refine ⟨fun a ha => ?_, h.sublist (List.filter_sublist.map _)⟩
    obtain ⟨x, hx, rfl⟩ := List.mem_map.mp ha
    simpa using (List.mem_filter.mp hx).2
  · obtain ⟨x, hx, rfl⟩ := List.mem_map.mp ha
    have h1 : x.day < t.day := by simpa using (List.mem_filter.mp hx).2
    rw [List.singleton_append, List.map_cons] at hb
    rcases List.mem_cons.mp hb with rfl | hb
    · exact h1
    · obtain ⟨y, hy, rfl⟩ := List.mem_map.mp hb
      have h2 : t.day < y.day := by simpa using (List.mem_filter.mp hy).2
      omega
theorem ins_mem {r : List Tar} {t x : Tar} (h : x ∈ ins r t) : x = t ∨ x ∈ r := by
  unfold ins at h
  rcases List.mem_append.mp h with h | h
  · rcases List.mem_append.mp h with h | h
    · exact .inr (List.mem_filter.mp h).1
    · exact .inl (List.mem_singleton.mp h)
  · exact .inr (List.mem_filter.mp h).1
theorem ins_len {r : List Tar} {t : Tar} : (ins r t).length ≤ r.length + 1 := by
  unfold ins
  have h : ∀ l : List Tar, (l.filter (fun x => decide (x.day < t.day))).length + (l.filter (fun x => decide (t.day < x.day))).length ≤ l.length := by
    intro l
    induction l with
    | nil => simp
    | cons a l ih =>
      rw [List.filter_cons, List.filter_cons]
      split <;> split <;> simp_all <;> omega
  have := h r
  simp only [List.length_append, List.length_singleton]
  omega
noncomputable def tOn (r : List Tar) (day : Int) : Option Tar := r.foldl (fun f t => if t.day ≤ day then some t else f) none
theorem tOn_succ {r : List Tar} {day : Int} {k : Nat} {t : Tar} (h : r[k]? = some t) : tOn (r.take (k + 1)) day = if t.day ≤ day then some t else tOn (r.take k) day := by
  unfold tOn
  rw [List.take_add_one, h, List.foldl_append]; rfl
noncomputable def optPy : Option Tar → PyData
  | none => .none
  | some t => t.py
theorem opt_shp (o : Option Tar) {n : Nat} : Shp (n + 1) (optPy o) := by
  cases o with
  | none => exact .none
  | some t => exact t.shp
noncomputable def costOf (t : Tar) (use : Int) : Int := t.st + t.low * (if t.lim < use then t.lim else use) + t.high * (if use - t.lim > 0 then use - t.lim else 0)
noncomputable def dueC (t : Tar) (use : Int) : Int := if t.lim < use then t.st + t.low * t.lim + t.high * (use - t.lim) else t.st + t.low * use
theorem cost_eq (t : Tar) (use : Int) : costOf t use = dueC t use := by
  unfold costOf dueC
  by_cases h : t.lim < use
  · rw [if_pos h, if_pos h, if_pos (by omega)]
  · rw [if_neg h, if_neg h, if_neg (by omega), Int.mul_zero, Int.add_zero]
noncomputable def tarBy (n m : Int) : Tar :=
  ⟨[n % 12, n % 2001].getD (n / 5 % 2).toNat 0, m / 3 % [1, 100, 1000000001].getD (n / 252 % 3).toNat 0, [0, 1, m % 1000000001].getD (n / 7 % 3).toNat 0, [0, 1, 30, m * 48271 % 1000000000001].getD (n / 63 % 4).toNat 0, [0, 3, m / 7 % 1000000001].getD (n / 21 % 3).toNat 0⟩
theorem pick3 (n : Int) : 0 < [(1 : Int), 100, 1000000001].getD (n / 252 % 3).toNat 0 ∧ [(1 : Int), 100, 1000000001].getD (n / 252 % 3).toNat 0 ≤ 1000000001 := by
  have h : (n / 252 % 3).toNat < [(1 : Int), 100, 1000000001].length := by show _ < 3; omega
  have := getD_mem (d := (0 : Int)) h
  have all : ∀ x ∈ [(1 : Int), 100, 1000000001], 0 < x ∧ x ≤ 1000000001 := by decide
  exact all _ this
theorem tarBy_ok (n m : Int) : TOk (tarBy n m) := by
  have p := pick3 n
  refine ⟨⟨Int.emod_nonneg _ (by omega), ?_⟩, ?_, ?_, ?_⟩
  · have := Int.emod_lt_of_pos (m / 3) p.1
    show m / 3 % _ ≤ _
    omega
  · have h : (n / 7 % 3).toNat < [(0 : Int), 1, m % 1000000001].length := by show _ < 3; omega
    have := getD_mem (d := (0 : Int)) h
    simp only [List.mem_cons, List.not_mem_nil, or_false] at this
    show 0 ≤ List.getD _ _ _ ∧ List.getD _ _ _ ≤ _
    omega
  · have h : (n / 63 % 4).toNat < [(0 : Int), 1, 30, m * 48271 % 1000000000001].length := by show _ < 4; omega
    have := getD_mem (d := (0 : Int)) h
    simp only [List.mem_cons, List.not_mem_nil, or_false] at this
    show 0 ≤ List.getD _ _ _ ∧ List.getD _ _ _ ≤ _
    omega
  · have h : (n / 21 % 3).toNat < [(0 : Int), 3, m / 7 % 1000000001].length := by show _ < 3; omega
    have := getD_mem (d := (0 : Int)) h
    simp only [List.mem_cons, List.not_mem_nil, or_false] at this
    show 0 ≤ List.getD _ _ _ ∧ List.getD _ _ _ ≤ _
    omega
noncomputable def tk (ns : List Int) (k : Nat) : Tar := tarBy (mixed ns (3 + 2 * (k : Int))) (mixed ns (4 + 2 * (k : Int)))
noncomputable def rowsN (ns : List Int) : Nat → List Tar
  | 0 => []
  | k + 1 => if (tk ns k).day ∈ (rowsN ns k).map Tar.day then rowsN ns k else ins (rowsN ns k) (tk ns k)
theorem rowsN_ok (ns : List Int) : ∀ k, Inc (rowsN ns k) ∧ (rowsN ns k).length ≤ k ∧ ∀ t ∈ rowsN ns k, TOk t
  | 0 => ⟨List.Pairwise.nil, Nat.le_refl _, fun _ h => nomatch h⟩
  | k + 1 => by
    obtain ⟨a, b, c⟩ := rowsN_ok ns k
    unfold rowsN
    split
    · exact ⟨a, by omega, c⟩
    · refine ⟨ins_inc a, Nat.le_trans ins_len (by omega), fun t ht => ?_⟩
      rcases ins_mem ht with rfl | h
      · exact tarBy_ok _ _
      · exact c t h
theorem days_any (r : List Tar) (d : Int) : ((r.map fun t => PyData.int t.day).any fun y => PyData.eqv y (.int d)) = decide (d ∈ r.map Tar.day) := by
  induction r with
  | nil => rfl
  | cons a r ih =>
    rw [List.map_cons, List.any_cons, ih, List.map_cons]
    simp only [PyData.eqv, List.mem_cons]
    by_cases h : a.day = d
    · simp [h]
    · have h' : ¬ d = a.day := fun e => h e.symm
      simp [h, h']

section
variable {C : Cx} (G : PG C)
theorem tar_get {r : List Tar} {i : Nat} (hi : i < (r.map Tar.py).length) : ∃ t, r[i]? = some t ∧ (r.map Tar.py).getD i .none = .tuple t.flds := by
  rw [List.length_map] at hi
  exact ⟨r[i], List.getElem?_eq_getElem hi, by rw [List.getD_eq_getElem?_getD, List.getElem?_map, List.getElem?_eq_getElem hi]; rfl⟩
theorem range_pick {α β : Type} (l : List α) (d : α) (p : α → Bool) (f : α → β) : ((List.range l.length).filter (fun i => p (l.getD i d))).map (fun i => f (l.getD i d)) = (l.filter p).map f := by
  induction l with
  | nil => rfl
  | cons a l ih =>
    rw [List.length_cons, List.range_succ_eq_map, List.filter_cons, List.filter_cons]
    have e : ((List.map Nat.succ (List.range l.length)).filter (fun i => p ((a :: l).getD i d))).map (fun i => f ((a :: l).getD i d)) = (l.filter p).map f := by
      rw [← ih, List.filter_map, List.map_map]; rfl
    cases hp : p a with
    | true => simp only [List.getD_cons_zero, hp, if_true, List.map_cons, e]
    | false => simp only [List.getD_cons_zero, hp, Bool.false_eq_true, if_false, e]
noncomputable def t0 : Tar := ⟨0, 0, 0, 0, 0⟩
theorem tar_getD {r : List Tar} {i : Nat} (hi : i < (r.map Tar.py).length) : (r.map Tar.py).getD i .none = .tuple (r.getD i t0).flds := by
  rw [List.length_map] at hi
  rw [List.getD_eq_getElem?_getD, List.getElem?_map, List.getElem?_eq_getElem hi, List.getD_eq_getElem?_getD, List.getElem?_eq_getElem hi]; rfl
noncomputable abbrev LW : List Str := ["tariffs", "tariff", "ahead", "behind"]
noncomputable abbrev GW : List Str := ["StandsAlready", "tuple"]
/-- the days of the tariffs -/
theorem days_ev {A : Around} {F : Fx} {k : Nat} {ns gs : List Str} {ρ : List Slot} (W : Wk C A F k ns gs) {iter : PySem.Expr} {x : Str} {px vp sp np pos : Pos} {kk : Nat} {scope : Scope} {r : List Tar} {d : PyData} (hl : r.length ≤ 1000) (hd : d = .list (r.map Tar.py) ∨ d = .tuple (r.map Tar.py)) (he : EvE C A (FS F ρ) F.env iter d)
    (hsc : scopeU scope [] [x] = true) (hfree : scope.names.all (fun y => y.2 != .free) = true) (hs : ∀ x, foldedSetIterable iter F.env x = pure x) (h9 : k ≤ 100) :
    EvE C A (FS F ρ) F.env (.ListComp (.Subscript (.Name x np) (.Constant (.int 0) kk vp) sp) [⟨.Name x px, iter, [], 0⟩] scope pos) (.list (r.map fun t => .int t.day)) := by
  have hlm : (r.map Tar.py).length = r.length := List.length_map ..
  have e : (r.map fun t => PyData.int t.day) = ((List.range (r.map Tar.py).length).filter fun i => (fun _ : Tar => true) (r.getD i t0)).map (fun i => (fun t : Tar => PyData.int t.day) (r.getD i t0)) := by
    rw [hlm, range_pick r t0 (fun _ => true) (fun t => PyData.int t.day), List.filter_eq_self.mpr (fun _ _ => rfl)]
  rw [e]
  refine V.comp0 W (n := (r.map Tar.py).length) (tst := fun i => true) (g := fun i => .int (r.getD i t0).day) (item := fun i => (r.map Tar.py).getD i .none) [] [x] hsc (.head _) hfree (by omega) (V.itSeq W he hd h9) (fun cenv i hi U => EvIfs.nil) (fun cenv i hi _ U => ?_) hs h9
  rw [tar_getD hi] at U ⊢
  exact Mine.U.item U (ds := (r.getD i t0).flds) (i := 0) (j := 0) (Mine.U.var U (.head _) (.head _)) EvE.const_int (.inr rfl) (by show 5 ≤ 2 ^ 40; decide) rfl rfl (by with_unfolding_all rfl)
/-- one of the two comprehensions -/
theorem side_ev {A : Around} {F : Fx} (W : Wk C A F 0 LW GW) (K : Ck F "tariff") {z : Str} {zp spos : Pos} {iter : PySem.Expr} {op : PySem.CmpOp} {np px p1 p2 p3 p4 p5 p6 cp pos : Pos} {k1 k2 : Nat} {scope : Scope} {r : List Tar} {t : Tar} {p : Tar → Bool} {ρ ρ' : List Slot} {i : Nat} {Q : Out → Prop} (hl : r.length ≤ 1000)
    (he : EvE C A (FS F ρ) F.env iter (tpy r)) (hv : ∃ j, Var LW ρ "tariff" j (.dat t.py)) (hop : ∀ x : Tar, CmpR op (.int x.day) (.int t.day) (p x))
    (hsc : scopeU scope [] ["one"] = true) (hfree : scope.names.filter (·.2 == .free) = [(("tariff" : Str), NameKind.free)]) (hlk : scope.names.lookup ("tariff" : Str) = some NameKind.free)
    (hu : Upd LW ρ z (.dat (.list ((r.filter p).map Tar.py))) i ρ') (hq : Q (.next ρ')) (hs : ∀ x, foldedSetIterable iter F.env x = pure x) (hzy : z ≠ "tariff") (hzp : (zp.line == pos.line && !(scope.names.any fun n => n.1 == z && (n.2 == .local || n.2 == .cell))) = true) (hm : behindInMarks op (.Subscript (.Name "tariff" p4) (.Constant (.int 0) k2 p5) p6) = false) :
    Ex1 C A F ρ (.Assign [.Name z zp] (.ListComp (.Name "one" np) [⟨.Name "one" px, iter, [.Compare (.Subscript (.Name "one" p1) (.Constant (.int 0) k1 p2) p3) [op] [.Subscript (.Name "tariff" p4) (.Constant (.int 0) k2 p5) p6] cp], 0⟩] scope pos) spos) Q := by
  have hlm : (r.map Tar.py).length = r.length := List.length_map ..
  have e : (r.filter p).map Tar.py = ((List.range (r.map Tar.py).length).filter (fun i => p (r.getD i t0))).map (fun i => (r.getD i t0).py) := by rw [hlm]; exact (range_pick r t0 p Tar.py).symm
  rw [e] at hu
  obtain ⟨j, hv⟩ := hv
  refine V.acomp1 W K (n := (r.map Tar.py).length) (tst := fun i => p (r.getD i t0)) (g := fun i => (r.getD i t0).py) (item := fun i => (r.map Tar.py).getD i .none) [] ["one"] hsc (.head _) hfree hlk (by decide) (by omega) (V.itSeq W he (.inr rfl)) (fun cenv i hi U K' => ?_) (fun cenv i hi _ U K' => ?_) hu hq hs hzy hzp
  · rw [tar_getD hi] at U K' ⊢
    exact EvIfs.one (Mine.U.cmpB U (Mine.U.item U (ds := (r.getD i t0).flds) (i := 0) (j := 0) (Mine.U.var U (.head _) (.head _)) EvE.const_int (.inr rfl) (by show 5 ≤ 2 ^ 40; decide) rfl rfl (by with_unfolding_all rfl)) (Mine.U.item U (ds := t.flds) (i := 0) (j := 0) (K'.ev hv) EvE.const_int (.inr rfl) (by show 5 ≤ 2 ^ 40; decide) rfl rfl (by with_unfolding_all rfl)) (hop _) hm)
  · rw [tar_getD hi] at U K' ⊢
    exact Mine.U.var U (.head _) (.head _)
theorem in_test {A : Around} {F : Fx} (W : Wk C A F 0 LW GW) {r : List Tar} {t : Tar} {b c : Slot} (hl : r.length ≤ 1000) : EvB C A (FS F [.dat (tpy r), .dat t.py, b, c]) F.env (match (fdBody (stmtAt pw 8)).getD 0 (.Pass ⟨0, 0, 0, 0⟩) with | .If e _ _ _ => e | _ => .Constant .none 0 ⟨0, 0, 0, 0⟩) (decide (t.day ∈ r.map Tar.day)) := by
  rw [← days_any]
  change EvB C A _ _ (.Compare _ _ _ _) _
  refine V.cmpB W (d1 := .int t.day) (d2 := .list (r.map fun t => .int t.day)) ?_ (days_ev W (d := tpy r) hl (.inr rfl) (V.var W (i := 0) .here) (by decide +kernel) (by decide +kernel) (by intro _; with_unfolding_all rfl) (by decide)) (CmpR.isIn ?_ ?_) (by with_unfolding_all rfl)
  · exact V.item W (ds := t.flds) (i := 0) (j := 0) (V.var W (i := 1) (.there .here)) EvE.const_int (.inr rfl) (by show 5 ≤ 2 ^ 40; decide) rfl rfl (by with_unfolding_all rfl)
  · exact Shp.shaped (n := 5) (.list fun x hx => by obtain ⟨y, _, rfl⟩ := List.mem_map.mp hx; exact .int)
  · exact Shp.shaped (n := 5) .int
theorem with_tariff_ok {r : List Tar} {t : Tar} (hl : r.length ≤ 1000) (hd : t.day ∉ r.map Tar.day) : FnOK C G.a_with_tariff 1 [tpy r, t.py] (tpy (ins r t)) := by
  refine FnOK.ofC (stmtAt pw 8) "tariff" LW GW _ ["ahead", "behind"] G.d_with_tariff rfl rfl (by decide +kernel) (fun _ => rfl) fun A F W K => ?_
  change ExS C A F [.dat (tpy r), .dat t.py, .undef, .undef] (_ :: _) _
  refine ExS.cons (Ex1.ite (in_test W hl) (fun hb => absurd (of_decide_eq_true hb) hd) (fun _ => ?_))
  walk_at "nil"
  refine ExS.cons (side_ev W K hl (p := fun x => decide (x.day < t.day)) (ρ' := [.dat (tpy r), .dat t.py, .dat (.list ((r.filter fun x => decide (x.day < t.day)).map Tar.py)), .undef]) (i := 2) (V.var W (i := 0) .here) ⟨1, .there .here⟩ (fun _ => CmpR.lt) (by decide +kernel) rfl rfl (.there (.there .here)) (Then.next ?_) (by intro _; with_unfolding_all rfl) (by decide) (by decide +kernel) (by with_unfolding_all rfl))
  refine ExS.cons (side_ev W K hl (p := fun x => decide (t.day < x.day)) (ρ' := [.dat (tpy r), .dat t.py, .dat (.list ((r.filter fun x => decide (x.day < t.day)).map Tar.py)), .dat (.list ((r.filter fun x => decide (t.day < x.day)).map Tar.py))]) (i := 3) (V.var W (i := 0) .here) ⟨1, .there .here⟩ (fun _ => CmpR.gt) (by decide +kernel) rfl rfl (.there (.there (.there .here))) (Then.next ?_) (by intro _; with_unfolding_all rfl) (by decide) (by decide +kernel) (by with_unfolding_all rfl))
  have l1 : (r.filter fun x => decide (x.day < t.day)).length ≤ 1000 := Nat.le_trans (List.length_filter_le ..) hl
  have l2 : (r.filter fun x => decide (t.day < x.day)).length ≤ 1000 := Nat.le_trans (List.length_filter_le ..) hl
  walk_at "ret"
  simp only [tpy, ins, List.map_append, List.map_cons, List.map_nil]
theorem with_tariff_ra {r : List Tar} {t : Tar} (hl : r.length ≤ 1000) (hd : t.day ∈ r.map Tar.day) : FnRA C G.a_with_tariff 1 [tpy r, t.py] G.c_StandsAlready := by
  refine FnRA.ofC (stmtAt pw 8) "tariff" LW GW _ ["ahead", "behind"] G.d_with_tariff rfl rfl (by decide +kernel) (fun _ => rfl) fun A F W K => ?_
  change ExX C A F [.dat (tpy r), .dat t.py, .undef, .undef] (_ :: _) _
  refine ExX.here (Ex1X.ite (in_test W hl) (fun _ => ?_) (fun hb => absurd hd (of_decide_eq_false hb)))
  change ExX _ _ _ _ (_ :: _) _
  refine ExX.here (V.raise W (by walk_at "mem") G.k_StandsAlready G.e_StandsAlready (d := .str "a tariff of this day stands there") ?_)
  walk_at "evs"
theorem tariff_on_ok {r : List Tar} {day : Int} (hl : r.length ≤ 1000) : FnOK C G.a_tariff_on 1 [tpy r, .int day] (optPy (tOn r day)) := by
  refine FnOK.of (stmtAt pw 9) ["tariffs", "day", "found", "one"] [] _ ["found", "one"] G.d_tariff_on rfl rfl (by decide +kernel) fun A F W => ?_
  walk_at "init"
  walk_at "assign"
  with_reducible refine' ExS.cons (V.forSeq W (ds := r.map Tar.py) (fun k => [.dat (tpy r), .dat (.int day), .dat (optPy (tOn (r.take k) day)), .undef]) ?he ?hd ?h0 ?turn ?done)
  case he => walk_at "ev"
  case hd => exact .inr rfl
  case h0 => exact .same (.same (.same (.same .nil)))
  case done =>
    rw [List.length_map, List.take_length]
    walk_at "q"
    walk_at "ret"
  case turn =>
    intro k x hx
    rw [List.getElem?_map] at hx
    obtain ⟨t, ht, rfl⟩ := Option.map_eq_some_iff.mp hx
    refine ⟨_, V.tname W (by walk_at "upd"), ?_⟩
    rw [tOn_succ ht]
    change ExS C A F [_, _, _, .dat (.tuple [.int t.day, .int t.st, .int t.low, .int t.lim, .int t.high])] (_ :: _) _
    walk_at "ite"
    case x =>
      intro hb; simp only [decide_eq_true_eq] at hb
      rw [if_pos hb]
      walk_at "assign"
      exact .same (.same (.same (.drop .nil)))
    case y =>
      intro hb; simp only [decide_eq_false_iff_not] at hb
      rw [if_neg hb]
      walk_at "nil"
      exact .same (.same (.same (.drop .nil)))
theorem cost_none {use : Int} : FnOK C G.a_cost 1 [.none, .int use] (.int 0) := by
  refine FnOK.of (stmtAt pw 10) ["tariff", "use", "day", "standing", "low", "limit", "high"] ["min", "max"] _ ["day", "standing", "low", "limit", "high"] G.d_cost rfl rfl (by decide +kernel) fun A F W => ?_
  walk_at "init"
  walk_at "ite"
  case x => intro _; walk_at "ret"
  case y => intro hb; cases hb
theorem cost_ok {t : Tar} {use : Int} (H : TOk t) : FnOK C G.a_cost 1 [t.py, .int use] (.int (costOf t use)) := by
  refine FnOK.of (stmtAt pw 10) ["tariff", "use", "day", "standing", "low", "limit", "high"] ["min", "max"] _ ["day", "standing", "low", "limit", "high"] G.d_cost rfl rfl (by decide +kernel) fun A F W => ?_
  walk_at "init"
  have h1 := H.low
  have h2 := H.high
  change ExS C A F [.dat (.tuple [.int t.day, .int t.st, .int t.low, .int t.lim, .int t.high]), _, _, _, _, _, _] (_ :: _) _
  walk_at "ite"
  case x => intro hb; cases hb
  case y =>
    intro _
    walk_at "nil"
    walk_at "unpack"
    walk_at "ret"
    rfl
end

local macro_rules | `(tactic| walk_at "gl") => `(tactic| with_reducible first | exact (PG.k_MeterError ‹PG _›) | exact (PG.k_NoMeter ‹PG _›) | exact (PG.k_StandsAlready ‹PG _›) | exact (PG.k_NotLater ‹PG _›) | exact (PG.k_NoValue ‹PG _›) | exact (PG.k_NoReading ‹PG _›))
local macro_rules | `(tactic| walk_at "exck") => `(tactic| with_reducible first | exact (PG.x_StandsAlready ‹PG _›))
local macro_rules | `(tactic| walk_at "kit") => `(tactic| with_reducible first | exact (PG.v_StandsAlready ‹PG _›) | exact (PG.i_StandsAlready_NoMeter ‹PG _›) | exact (PG.i_StandsAlready_StandsAlready ‹PG _›) | exact (PG.i_StandsAlready_NotLater ‹PG _›) | exact (PG.i_StandsAlready_NoValue ‹PG _›) | exact (PG.i_StandsAlready_NoReading ‹PG _›))
local macro_rules | `(tactic| walk_at "ev") => `(tactic| first | ((with_reducible refine' V.isiX (by assumption) (by walk_at "mem") (by walk_at "bi") (by walk_at "mem") ?g ?a ?b ?c); (case g => walk_at "gl"); (case a => walk_at "ev"); (case b => walk_at "exck"); (case c => walk_at "kit")) | ((with_reducible refine' V.isiXB (by assumption) (by walk_at "mem") (by walk_at "bi") (by walk_at "mem") ?g ?a ?b ?c); (case g => walk_at "bi"); (case a => walk_at "ev"); (case b => walk_at "exck"); (case c => walk_at "kit")) | fail "isi")
section
variable {C : Cx} (G : PG C)
theorem refused3_ok {r : List Tar} {t : Tar} (hl : r.length ≤ 1000) (hd : t.day ∈ r.map Tar.day) : FnC C G.a_l_refused 2 [tpy r, t.py] (.bool true) := by
  refine' FnC.of (stmtAt pw 16) ["_law_tariffs", "_law_tariff", "e"] ["with_tariff", "MeterError", "isinstance", "NoMeter", "NoReading", "NotLater", "NoValue", "ValueError", "StandsAlready"] [tpy r, t.py] ["e"] (c := G.c_StandsAlready) (c' := G.c_MeterError) (xt := "MeterError") (n := "e")
    (ρ₂ := [.dat (tpy r), .dat t.py, .dat (excD G.c_StandsAlready)]) (i := 2) G.d_l_refused (by with_unfolding_all rfl) rfl rfl (by decide +kernel) G.k_MeterError G.m_StandsAlready (by decide) (by decide) (by intro q; cases q) ?hu ?hb ?hs
  case hu => exact .there (.there .here)
  case hb =>
    intro A F W
    change EvX C A F [.dat (tpy r), .dat t.py, .undef] _ _ ∧ _
    refine ⟨V.callX W (by walk_at "mem") G.g_with_tariff G.d_with_tariff.isFn ?_ (with_tariff_ra G hl hd) (by decide), by with_unfolding_all rfl⟩
    walk_at "evs"
  case hs =>
    intro A F W
    change ExS _ _ _ _ (_ :: _) _
    walk_at "ite"
    case x => intro hb; exact absurd hb (by decide)
    case y =>
      intro _
      walk_at "nil"
      walk_at "ret"
end

local macro_rules | `(tactic| walk_at "fn") => `(tactic| first
  | (with_reducible exact whole_ok _)
  | ((with_reducible refine' cost_ok _ ?h1) <;> walk_at "side"))
section
variable {C : Cx} (G : PG C)
theorem cost_right_ok {t : Tar} {use : Int} (H : TOk t) : FnOK C G.a_l_cost_right 2 [t.py, .int use] (.bool true) := by
  refine FnOK.of (stmtAt pw 17) ["_law_tariff", "_law_use", "_law_due", "_law_found"] ["cost", "_law_whole"] _ ["_law_due", "_law_found"] G.d_l_cost_right rfl rfl (by decide +kernel) fun A F W => ?_
  walk_at "init"
  have h1 := H.low
  have h2 := H.high
  have fin : ExS C A F [.dat t.py, .dat (.int use), .dat (.int (dueC t use)), .undef] (fdBody (stmtAt pw 17)).tail.tail (RetQ (.bool true)) := by
    change ExS _ _ _ _ (_ :: _) _
    walk_at "assign"
    rw [cost_eq]
    walk_at "ret"
    simp
  change ExS C A F [.dat (.tuple [.int t.day, .int t.st, .int t.low, .int t.lim, .int t.high]), _, _, _] (_ :: _) _
  walk_at "assign"
  walk_at "ite"
  case x =>
    intro hb; simp only [decide_eq_true_eq] at hb
    walk_at "assign"
    have e : dueC t use = t.st + t.low * t.lim + t.high * (use - t.lim) := by unfold dueC; rw [if_pos hb]
    rw [← e]
    exact fin
  case y =>
    intro hb; simp only [decide_eq_false_iff_not] at hb
    walk_at "nil"
    have e : dueC t use = t.st + t.low * use := by unfold dueC; rw [if_neg hb]
    rw [← e]
    exact fin
theorem tariff_by_ok {n m : Int} (h0 : 0 ≤ n) (hm : 0 ≤ m) : FnOK C G.a_l_tariff_by 1 [.int n, .int m] (tarBy n m).py := by
  refine FnOK.of (stmtAt pw 15) ["_law_number", "_law_more", "_law_day", "_law_low", "_law_high", "_law_limit"] [] _ ["_law_day", "_law_low", "_law_high", "_law_limit"] G.d_l_tariff_by rfl rfl (by decide +kernel) fun A F W => ?_
  walk_at "init"
  have p3 := pick3 n
  with_reducible refine' ExS.cons (V.assign W (V.pick W [n % 12, n % 2001] (i := n / 5 % 2) ?a1 ?a2 ?a3 ?a4 ?a5) ?b1 ?c1)
  case a1 => (show EvE C A _ F.env _ (.list [.int (n % 12), .int (n % 2001)])); walk_at "ev"
  case a2 => walk_at "ev"
  case a3 => omega
  case a4 => show _ < (2 : Int); omega
  case a5 => simp
  case b1 => walk_at "upd"
  walk_at "q"
  with_reducible refine' ExS.cons (V.assign W (V.pick W [0, 1, m % 1000000001] (i := n / 7 % 3) ?a12 ?a22 ?a32 ?a42 ?a52) ?b2 ?c2)
  case a12 => (show EvE C A _ F.env _ (.list [.int 0, .int 1, .int (m % (1000000000 + 1))])); walk_at "ev"
  case a22 => walk_at "ev"
  case a32 => omega
  case a42 => show _ < (3 : Int); omega
  case a52 => simp
  case b2 => walk_at "upd"
  walk_at "q"
  with_reducible refine' ExS.cons (V.assign W (V.pick W [0, 3, m / 7 % 1000000001] (i := n / 21 % 3) ?a13 ?a23 ?a33 ?a43 ?a53) ?b3 ?c3)
  case a13 => (show EvE C A _ F.env _ (.list [.int 0, .int 3, .int (m / 7 % (1000000000 + 1))])); walk_at "ev"
  case a23 => walk_at "ev"
  case a33 => omega
  case a43 => show _ < (3 : Int); omega
  case a53 => simp
  case b3 => walk_at "upd"
  walk_at "q"
  with_reducible refine' ExS.cons (V.assign W (V.pick W [0, 1, 30, m * 48271 % 1000000000001] (i := n / 63 % 4) ?a14 ?a24 ?a34 ?a44 ?a54) ?b4 ?c4)
  case a14 => (show EvE C A _ F.env _ (.list [.int 0, .int 1, .int 30, .int (m * 48271 % (1000000000000 + 1))])); walk_at "ev"
  case a24 => walk_at "ev"
  case a34 => omega
  case a44 => show _ < (4 : Int); omega
  case a54 => simp
  case b4 => walk_at "upd"
  walk_at "q"
  with_reducible refine' ExS.cons (Ex1.ret (V.tuple W (ds := (tarBy n m).flds) (V.cons W ?e1 (V.cons W (V.bin W ?e2 (V.pick W [1, 100, 1000000001] (i := n / 252 % 3) ?a15 ?a25 ?a35 ?a45 ?a55) (BinR.mod ?zzp)) (V.cons W ?e3 (V.cons W ?e4 (V.cons W ?e5 EvEs.nil))))) ?zzz) ?zzq)
  case e1 => exact V.var W (i := 2) (.there (.there .here))
  case e2 => walk_at "ev"
  case a15 => (show EvE C A _ F.env _ (.list [.int 1, .int 100, .int (1000000000 + 1)])); walk_at "ev"
  case a25 => walk_at "ev"
  case a35 => omega
  case a45 => show _ < (3 : Int); omega
  case a55 => decide
  case zzp => exact p3.1
  case e3 => exact V.var W (i := 3) (.there (.there (.there .here)))
  case e4 => exact V.var W (i := 5) (.there (.there (.there (.there (.there .here)))))
  case e5 => exact V.var W (i := 4) (.there (.there (.there (.there .here))))
  case zzz => show 5 ≤ 2 ^ 20; decide
  case zzq => exact .ret (.ret rfl)
end

local macro_rules | `(tactic| walk_at "fn") => `(tactic| first
  | ((with_reducible refine' cell_at_ok _ ?h1 ?h2) <;> walk_at "side")
  | ((with_reducible refine' mixed_ok _ ?h1 ?h2 ?h3) <;> walk_at "side")
  | ((with_reducible refine' tariff_by_ok _ ?h1 ?h2) <;> walk_at "side")
  | ((with_reducible refine' with_tariff_ok _ ?h1 ?h2) <;> walk_at "side")
  | ((with_reducible refine' tariff_on_ok _ ?h1) <;> walk_at "side")
  | ((with_reducible refine' cost_right_ok _ ?h1) <;> walk_at "side")
  | (with_reducible exact cost_none _))
noncomputable abbrev L03 : List Str := ["_law_script", "_law_tariffs", "_law_rows", "_law_many", "_law_k", "_law_tariff", "_law_kept", "_law_found", "_law_day", "_law_due", "_law_one", "_law_use"]
noncomputable abbrev G03 : List Str := ["_law_cell_at", "range", "_law_tariff_by", "_law_mixed", "_law_refused", "list", "with_tariff", "sorted", "isinstance", "tuple", "tariff_on", "_law_cost_right", "cost"]
noncomputable def rl (r : List Tar) : PyData := .list (r.map Tar.py)
section
variable {C : Cx} (G : PG C)
include G
/-- one tariff more -/
theorem turn3 {ns : List Int} (hz : ns.length ≤ 63) {k : Nat} (hk : k ≤ 60) {r : List Tar} {many : Int} {A : Around} {F : Fx} (W : Wk C A F 9 L03 G03) (ho : F.outer = []) (hi : Inc r) (hl : r.length ≤ 60) {Q : Out → Prop} :
    ExS C A F [.dat (scr ns), .dat (tpy r), .dat (rl r), .dat (.int many), .dat (.int k), .undef, .undef, .undef, .undef, .undef, .undef, .undef] ((fdBody (stmtAt pw 18)).getD 4 (.Pass ⟨0, 0, 0, 0⟩) |> forBody)
      (LoopQ [.dat (scr ns), .dat (tpy (if (tk ns k).day ∈ r.map Tar.day then r else ins r (tk ns k))), .dat (rl (if (tk ns k).day ∈ r.map Tar.day then r else ins r (tk ns k))), .dat (.int many), .undef, .undef, .undef, .undef, .undef, .undef, .undef, .undef] Q) := by
  change ExS _ _ _ _ (_ :: _) _
  have hz' : ns.length ≤ 2 ^ 20 := by omega
  have b1 := mixed_bd ns (3 + 2 * (k : Int))
  have b2 := mixed_bd ns (4 + 2 * (k : Int))
  have hlm : (r.map Tar.py).length = r.length := List.length_map ..
  walk_at "assign"
  change ExS C A F [_, _, _, _, _, .dat (tk ns k).py, _, _, _, _, _, _] (_ :: _) _
  generalize tk ns k = t
  have hr1 : r.length ≤ 1000 := by omega
  refine ExS.cons (Ex1.ite (b := decide (t.day ∈ r.map Tar.day)) ?_ (fun hb => ?_) (fun hb => ?_))
  · rw [← days_any]
    refine V.cmpB W (d1 := .int t.day) (d2 := .list (r.map fun t => .int t.day)) ?_ (days_ev W (d := rl r) hr1 (.inl rfl) (V.var W (i := 2) (.there (.there .here))) (by decide +kernel) (by decide +kernel) (by intro _; with_unfolding_all rfl) (by decide)) (CmpR.isIn ?_ ?_) (by with_unfolding_all rfl)
    · exact V.item W (ds := t.flds) (i := 0) (j := 0) (V.var W (i := 5) (.there (.there (.there (.there (.there .here)))))) EvE.const_int (.inr rfl) (by show 5 ≤ 2 ^ 40; decide) rfl rfl (by with_unfolding_all rfl)
    · exact Shp.shaped (n := 5) (.list fun x hx => by obtain ⟨y, _, rfl⟩ := List.mem_map.mp hx; exact .int)
    · exact Shp.shaped (n := 5) .int
  · have hd := of_decide_eq_true hb
    rw [if_pos hd]
    change ExS _ _ _ _ (_ :: _) _
    refine ExS.cons (Ex1.iteC (b := !true) (EvBC.not (EvBC.plain (V.callC W ho (ds := [tpy r, t.py]) (by walk_at "mem") G.g_l_refused G.d_l_refused.isFn ?_ (refused3_ok G hr1 hd) (by decide)) (by intro _; with_unfolding_all rfl))) (fun q => by cases q) (fun _ => ?_))
    · walk_at "evs"
    · refine ExS.nil (Then.next (ExS.cons (Ex1.continue_ (Then.cont (Then.cont (LoopQ.cont ?_))))))
      exact .same (.same (.same (.same (.drop (.drop (.drop (.drop (.drop (.drop (.drop (.drop .nil)))))))))))
  · have hd := of_decide_eq_false hb
    rw [if_neg hd]
    walk_at "nil"
    change ExS C A F [_, .dat (.tuple (r.map Tar.py)), _, _, _, _, _, _, _, _, _, _] (_ :: _) _
    walk_at "assign"
    change ExS C A F [_, .dat (tpy r), _, _, _, _, _, _, _, _, _, _] (_ :: _) _
    walk_at "assign"
    refine ExS.cons (Ex1.assignC W.hF (d := rl (ins r t)) (EvC.sorted (rows := r.map Tar.py) (d := t.py) (ks := r.map Tar.day) (k := t.day) W.hF (V.bi W (by walk_at "mem") G.b_sorted) (V.bin W (d1 := .list (r.map Tar.py)) (d2 := .list [t.py]) (V.var W (i := 2) (.there (.there .here))) (V.list W (V.cons W (V.var W (i := 5) (.there (.there (.there (.there (.there .here)))))) EvEs.nil) (by show 1 ≤ 2 ^ 20; decide)) (BinR.addL (by rw [hlm]; show r.length + 1 ≤ 2 ^ 20; omega)))
      (tar_keyds r) .mk hi hd (by rw [hlm]; omega) (out := (ins r t).map Tar.py) fun l h1 h2 h3 => ins_at (by rw [hlm] at h1; exact h1) h2 h3) (i := 2) (ρ' := [.dat (scr ns), .dat (tpy r), .dat (rl (ins r t)), .dat (.int many), .dat (.int k), .dat t.py, .dat (.list (r.map Tar.py)), .dat (tpy (ins r t)), .undef, .undef, .undef, .undef]) (by rw [W.hns]; exact .there (.there .here)) (Then.next ?_))
    have li : (ins r t).length ≤ 61 := Nat.le_trans ins_len (by omega)
    have hlm2 : ((ins r t).map Tar.py).length = (ins r t).length := List.length_map ..
    have s1 : ∀ x ∈ r.map Tar.py, Shp 4 x := tars_shp
    have s2 : ∀ x ∈ (ins r t).map Tar.py, Shp 4 x := tars_shp
    change ExS C A F [_, .dat (.tuple (r.map Tar.py)), .dat (.list ((ins r t).map Tar.py)), _, _, _, _, .dat (.tuple ((ins r t).map Tar.py)), _, _, _, _] (_ :: _) _
    walk_at "ite"
    case x =>
      intro hb
      rw [Shp.refl (n := 5) (.list s1), Shp.refl (n := 5) (.list s2)] at hb
      simp at hb
    case y =>
      intro _
      walk_at "nil"
      walk_at "assign"
      exact .same (.same (.same (.same (.drop (.drop (.drop (.drop (.drop (.drop (.drop (.drop .nil)))))))))))
/-- the days asked -/
theorem days3 {s m : PyData} {r : List Tar} {d1 d2 : Int} {A : Around} {F : Fx} (W : Wk C A F 9 L03 G03) (hr1 : r.length ≤ 1000) {it : PySem.Expr} {pos : Pos} {Q : Out → Prop}
    (he : EvE C A (FS F [.dat s, .dat (tpy r), .dat (rl r), .dat m, .undef, .undef, .undef, .undef, .undef, .undef, .undef, .undef]) F.env it (.list [.int d1, .int d2]))
    (hq : Q (.next [.dat s, .dat (tpy r), .dat (rl r), .dat m, .undef, .undef, .undef, .undef, .undef, .undef, .undef, .undef])) (hs : ∀ x, foldedSetIterable it F.env x = pure x) {px : Pos} :
    Ex1 C A F [.dat s, .dat (tpy r), .dat (rl r), .dat m, .undef, .undef, .undef, .undef, .undef, .undef, .undef, .undef] (.For (.Name "_law_day" px) it ((fdBody (stmtAt pw 18)).getD 5 (.Pass ⟨0, 0, 0, 0⟩) |> forBody) [] pos) Q := by
  refine V.forSeq W (ds := [.int d1, .int d2]) (fun k => [.dat s, .dat (tpy r), .dat (rl r), .dat m, .undef, .undef, .undef, .undef, .undef, .undef, .undef, .undef]) he (.inl rfl) (Sub.refl _) (fun k x hx => ?_) hq hs
  obtain ⟨day, rfl⟩ : ∃ day : Int, x = .int day := by
    match k with
    | 0 => exact ⟨d1, by simpa using hx.symm⟩
    | 1 => exact ⟨d2, by simpa using hx.symm⟩
    | k + 2 => simp at hx
  refine ⟨[.dat s, .dat (tpy r), .dat (rl r), .dat m, .undef, .undef, .undef, .undef, .dat (.int day), .undef, .undef, .undef], V.tname W (i := 8) (.there (.there (.there (.there (.there (.there (.there (.there .here)))))))), ?_⟩
  change ExS _ _ _ _ (_ :: _) _
  walk_at "assign"
  with_reducible refine' ExS.cons (V.forSeq W (ds := r.map Tar.py) (fun k => [.dat s, .dat (tpy r), .dat (rl r), .dat m, .undef, .undef, .undef, .undef, .dat (.int day), .dat (optPy (tOn (r.take k) day)), .undef, .undef]) ?he ?hd ?h0 ?turn ?done)
  case he => exact V.var W (i := 2) (.there (.there .here))
  case hd => exact .inl rfl
  case h0 => exact Sub.refl _
  case turn =>
    intro k x hx
    rw [List.getElem?_map] at hx
    obtain ⟨t, ht, rfl⟩ := Option.map_eq_some_iff.mp hx
    refine ⟨_, V.tname W (by walk_at "upd"), ?_⟩
    rw [tOn_succ ht]
    change ExS C A F [_, _, _, _, _, _, _, _, _, _, .dat (.tuple [.int t.day, .int t.st, .int t.low, .int t.lim, .int t.high]), _] (_ :: _) _
    walk_at "ite"
    case x =>
      intro hb; simp only [decide_eq_true_eq] at hb
      rw [if_pos hb]
      walk_at "assign"
      exact .same (.same (.same (.same (.same (.same (.same (.same (.same (.same (.drop (.same .nil)))))))))))
    case y =>
      intro hb; simp only [decide_eq_false_iff_not] at hb
      rw [if_neg hb]
      walk_at "nil"
      exact .same (.same (.same (.same (.same (.same (.same (.same (.same (.same (.drop (.same .nil)))))))))))
  case done =>
    rw [List.length_map, List.take_length]
    walk_at "q"
    change ExS _ _ _ _ (_ :: _) _
    have s1 := opt_shp (tOn r day) (n := 4)
    have s2 := Shp.shaped (n := 5) s1
    walk_at "ite"
    case x => intro hb; rw [Shp.refl (n := 5) s1] at hb; cases hb
    case y =>
      intro _
      walk_at "nil"
      exact .same (.same (.same (.same (.same (.same (.same (.same (.drop (.drop (.same (.same .nil)))))))))))
theorem law_end {s m : PyData} {r : List Tar} {ns : List Int} (hz : ns.length ≤ 63) {A : Around} {F : Fx} (W : Wk C A F 9 L03 G03) (hr1 : r.length ≤ 1000) (H : ∀ t ∈ r, TOk t) :
    ExS C A F [.dat (scr ns), .dat (tpy r), .dat (rl r), .dat m, .undef, .undef, .undef, .undef, .undef, .undef, .undef, .undef] (fdBody (stmtAt pw 18)).tail.tail.tail.tail.tail (RetQ (.bool true)) := by
  change ExS _ _ _ _ (_ :: _) _
  have hz' : ns.length ≤ 2 ^ 20 := by omega
  refine ExS.cons (days3 G W hr1 (d1 := cellAt ns 1 % 13) (d2 := cellAt ns 2 % 2001) ?_ (Then.next ?_) (by intro _; with_unfolding_all rfl))
  · walk_at "ev"
  · change ExS _ _ _ _ (_ :: _) _
    with_reducible refine' ExS.cons (V.assign W (V.pick W [cellAt ns 2 % 40, cellAt ns 2 % 1000000000000001] (i := cellAt ns 1 % 2) ?a1 ?a2 ?a3 ?a4 ?a5) ?b1 ?c1)
    case a1 => (show EvE C A _ F.env _ (.list [.int (cellAt ns 2 % 40), .int (cellAt ns 2 % (1000000000000000 + 1))])); walk_at "ev"
    case a2 => walk_at "ev"
    case a3 => omega
    case a4 => show _ < (2 : Int); omega
    case a5 => simp
    case b1 => walk_at "upd"
    walk_at "q"
    generalize [cellAt ns 2 % 40, cellAt ns 2 % 1000000000000001].getD (cellAt ns 1 % 2).toNat 0 = use
    change ExS _ _ _ _ (_ :: _) _
    with_reducible refine' ExS.cons (V.forSeq W (ds := r.map Tar.py) (fun k => [.dat (scr ns), .dat (tpy r), .dat (rl r), .dat m, .undef, .undef, .undef, .undef, .undef, .undef, .undef, .dat (.int use)]) ?he ?hd ?h0 ?turn ?done)
    case he => exact V.var W (i := 2) (.there (.there .here))
    case hd => exact .inl rfl
    case h0 => exact Sub.refl _
    case turn =>
      intro k x hx
      rw [List.getElem?_map] at hx
      obtain ⟨t, ht, rfl⟩ := Option.map_eq_some_iff.mp hx
      have Ht := H t (List.mem_of_getElem? ht)
      refine ⟨_, V.tname W (by walk_at "upd"), ?_⟩
      change ExS _ _ _ _ (_ :: _) _
      have g3 : t.flds[(3 : Int).toNat]? = some (.int t.lim) := rfl
      have c1 : ∀ {e : PySem.Expr} {u : Int} {np pos : Pos} {ep : Pos}, EvE C A (FS F [.dat (scr ns), .dat (tpy r), .dat (rl r), .dat m, .undef, .undef, .undef, .undef, .undef, .undef, .dat t.py, .dat (.int use)]) F.env e (.int u) →
          (starEach [.Name "_law_one" ep, e] F.env = (false, eval (.Name "_law_one" ep) F.env) :: starEach [e] F.env) → (starEach [e] F.env = (false, eval e F.env) :: starEach [] F.env) →
          EvE C A (FS F [.dat (scr ns), .dat (tpy r), .dat (rl r), .dat m, .undef, .undef, .undef, .undef, .undef, .undef, .dat t.py, .dat (.int use)]) F.env (.Call (.Name "_law_cost_right" np) [.Name "_law_one" ep, e] [] pos) (.bool true) := fun h h1 h2 =>
        V.call W (by walk_at "mem") G.g_l_cost_right G.d_l_cost_right.isFn (V.cons W (V.var W (i := 10) (.there (.there (.there (.there (.there (.there (.there (.there (.there (.there .here))))))))))) (V.cons W h EvEs.nil h2) h1) (cost_right_ok G Ht) (by decide) h1
      have i3 : ∀ {vp ip sp : Pos} {kk : Nat}, EvE C A (FS F [.dat (scr ns), .dat (tpy r), .dat (rl r), .dat m, .undef, .undef, .undef, .undef, .undef, .undef, .dat t.py, .dat (.int use)]) F.env (.Subscript (.Name "_law_one" vp) (.Constant (.int 3) kk ip) sp) (.int t.lim) := fun {vp ip sp kk} =>
        V.item W (ds := t.flds) (i := 3) (j := 3) (V.var W (i := 10) (.there (.there (.there (.there (.there (.there (.there (.there (.there (.there .here))))))))))) EvE.const_int (.inr rfl) (by show 5 ≤ 2 ^ 40; decide) rfl rfl (by with_unfolding_all rfl)
      refine ExS.cons (Ex1.ite (b := !true || (!true || (!true || false))) (V.orB W (EvB.not (V.plainB W (c1 (V.var W (i := 11) (.there (.there (.there (.there (.there (.there (.there (.there (.there (.there (.there .here)))))))))))) (by with_unfolding_all rfl) (by with_unfolding_all rfl)))) fun _ => V.orB W (EvB.not (V.plainB W (c1 i3 (by with_unfolding_all rfl) (by with_unfolding_all rfl)))) fun _ => V.orB W (EvB.not (V.plainB W (c1 (V.bin W i3 EvE.const_int BinR.add) (by with_unfolding_all rfl) (by with_unfolding_all rfl)))) fun _ => EvB.or_nil) (fun hb => by cases hb) (fun _ => ?_))
      walk_at "nil"
      exact .same (.same (.same (.same (.same (.same (.same (.same (.same (.same (.drop (.same .nil)))))))))))
    case done =>
      walk_at "q"
      change ExS _ _ _ _ (_ :: _) _
      walk_at "ret"
      simp
theorem law_body {ns : List Int} (hz : ns.length ≤ 63) {A : Around} {F : Fx} (W : Wk C A F 9 L03 G03) (ho : F.outer = []) :
    ExS C A F [.dat (.list (ns.map .int)), .undef, .undef, .undef, .undef, .undef, .undef, .undef, .undef, .undef, .undef, .undef] (fdBody (stmtAt pw 18)) (RetQ (.bool true)) := by
  change ExS _ _ _ _ (_ :: _) _
  change ExS C A F [.dat (scr ns), _, _, _, _, _, _, _, _, _, _, _] _ _
  have hz' : ns.length ≤ 2 ^ 20 := by omega
  have go : ∀ n : Nat, n ≤ 49 → ExS C A F [.dat (scr ns), .dat (tpy []), .dat (rl []), .dat (.int n), .undef, .undef, .undef, .undef, .undef, .undef, .undef, .undef] (fdBody (stmtAt pw 18)).tail.tail.tail.tail (RetQ (.bool true)) := fun n hn => by
    change ExS _ _ _ _ (_ :: _) _
    with_reducible refine' ExS.cons (V.forRange W (a := 0) (n := n) (fun k => [.dat (scr ns), .dat (tpy (rowsN ns k)), .dat (rl (rowsN ns k)), .dat (.int n), .undef, .undef, .undef, .undef, .undef, .undef, .undef, .undef]) ?he ?h0 ?turn ?done)
    case he => exact V.range1 W (by walk_at "mem") G.b_range (by walk_at "ev") (by omega)
    case h0 => exact Sub.refl _
    case turn =>
      intro k hk
      obtain ⟨a, b, c⟩ := rowsN_ok ns k
      refine ⟨_, V.tname W (by walk_at "upd"), ?_⟩
      rw [Int.zero_add]
      exact turn3 G hz (by omega) W ho a (by omega)
    case done =>
      walk_at "q"
      obtain ⟨a, b, c⟩ := rowsN_ok ns n
      exact law_end G (s := .none) hz W (by omega) c
  walk_at "assign"
  walk_at "assign"
  walk_at "assign"
  walk_at "ite"
  case x =>
    intro _
    walk_at "assign"
    have := go (10 + cellAt ns 0 / 8 % 40).toNat (by omega)
    rw [show (((10 + cellAt ns 0 / 8 % 40).toNat : Nat) : Int) = 10 + cellAt ns 0 / 8 % 40 by omega] at this
    exact this
  case y =>
    intro _
    walk_at "nil"
    have := go (cellAt ns 0 % 10).toNat (by omega)
    rw [show (((cellAt ns 0 % 10).toNat : Nat) : Int) = cellAt ns 0 % 10 by omega] at this
    exact this
end
-- LAW LOCALS: ["_law_tariffs", "_law_rows", "_law_many", "_law_k", "_law_tariff", "_law_kept", "_law_found", "_law_day", "_law_due", "_law_one", "_law_use"]
-- LAW GLOBALS: G03

end Mine
namespace Mine
open PySem PySem.W PySem.Spec PySem.Calls PyProof.Rows
noncomputable abbrev lawExs : List Str := ["MeterError", "NoMeter", "StandsAlready", "NotLater", "NoValue", "NoReading"]
theorem law_go {prog : Program} {w : World} {K : Frag} {p : Program} {loose : List Str} {mg mb : Str → Option Value} {s : Shared} (X : K.In s.heap) (T : TopX ⟨prog, w, K, p, loose, mg, mb, lawExs⟩ s.heap) (G : PG ⟨prog, w, K, p, loose, mg, mb, lawExs⟩) {f : Addr} (hf : Value.ref G.a_law = Value.ref f)
    (hKl : ∀ b o, K.lookup b = some o → o.cls ≠ .type "list") {a : Addr} {vs : List Value} {ns : List Int} (hl : s.heap.IsList a vs.toArray) (hi : IntsAre vs ns) (hz : ns.length ≤ 63)
    {R : Result → Shared → Prop} (hR : ∀ s', (∀ b o, s.heap.get? b = some o → s'.heap.get? b = some o) → (∃ h tk, s' = { s with heap := h, toks := tk }) → R (.ok (.ret (.bool true))) s') :
    codeAny (model prog w) callerA (.call (.ref f) ⟨[.ref a], []⟩) R s := by
  rw [← hf]
  refine FnTop.of (C := ⟨prog, w, K, p, loose, mg, mb, lawExs⟩) (stmtAt pw 18) G.d_law "_law_script" ["_law_tariffs", "_law_rows", "_law_many", "_law_k", "_law_tariff", "_law_kept", "_law_found", "_law_day", "_law_due", "_law_one", "_law_use"] G03 (k := 9) rfl (by decide +kernel) (by decide) X T hKl hl hi (fun A F W ho => ?_) hR
  exact law_body G hz W ho
set_option maxHeartbeats 8000000 in
open_top hd for PySem.Challenge.rw_uf050026_03
end Mine

open PySem PySem.W PyProof.Rows in
set_option maxHeartbeats 8000000 in
theorem PySem.Challenge.cw_uf050026_03_holds : PySem.Challenge.rw_uf050026_03.Holds := by
  refine Mine.hd ?_
  k_fill
  intro w s₀ s₁ mg mb G Y fa o pm cd doc dV kV ho hd hcd hD hmg hg args vals as hpre hlay hrd hwl hlo
  have KX := kIn_of Y
  refine Ground.open G ?_
  intro T B D TE TW
  wrow_args hpre hlay hrd hwl hlo
  refine enter_call ?_
  refine codeAny_mono ?_ (fun _ _ g => GoodW.toG g)
  clear hcd hd hD
  rename IntsAre _ _ => hI
  rename Heap.IsList _ _ _ => hL
  rename (¬ ((63 : Nat) : Int) < _) => h63
  replace hmg : mg (PySem.Str.ofString "law") = some (.ref fa) := hmg
  refine' Mine.law_go KX (Mine.TopX.of T ?exs) (Mine.PG.mk 92 ?g_with_tariff ?d_with_tariff 99 ?g_tariff_on ?d_tariff_on 106 ?g_cost ?d_cost 113 ?g_l_cell_at ?d_l_cell_at 120 ?g_l_mixed ?d_l_mixed 127 ?g_l_whole ?d_l_whole 134 ?g_l_tariff_by ?d_l_tariff_by 141 ?g_l_refused ?d_l_refused 148 ?g_l_cost_right ?d_l_cost_right 153 ?g_law ?d_law 24 ?k_MeterError 37 ?k_NoMeter 49 ?k_StandsAlready 61 ?k_NotLater 73 ?k_NoValue 85 ?k_NoReading ?e_StandsAlready ?x_StandsAlready ?m_StandsAlready ?v_StandsAlready ?i_StandsAlready_NoMeter ?i_StandsAlready_StandsAlready ?i_StandsAlready_NotLater ?i_StandsAlready_NoValue ?i_StandsAlready_NoReading ?b_len ?b_min ?b_max ?b_isinstance ?b_sorted ?b_list ?b_tuple ?b_range ?b_int ?b_bool ?b_ValueError) ?fa ?hKl hL hI ?h63 ?hR
  case g_with_tariff => exact Mine.Gl.mk (by kernel_rfl)
  case g_tariff_on => exact Mine.Gl.mk (by kernel_rfl)
  case g_cost => exact Mine.Gl.mk (by kernel_rfl)
  case g_l_cell_at => exact Mine.Gl.mk (by kernel_rfl)
  case g_l_mixed => exact Mine.Gl.mk (by kernel_rfl)
  case g_l_whole => exact Mine.Gl.mk (by kernel_rfl)
  case g_l_tariff_by => exact Mine.Gl.mk (by kernel_rfl)
  case g_l_refused => exact Mine.Gl.mk (by kernel_rfl)
  case g_l_cost_right => exact Mine.Gl.mk (by kernel_rfl)
  case g_law => exact Mine.Gl.mk (by kernel_rfl)
  case k_MeterError => exact Mine.Gl.mk (by kernel_rfl)
  case k_NoMeter => exact Mine.Gl.mk (by kernel_rfl)
  case k_StandsAlready => exact Mine.Gl.mk (by kernel_rfl)
  case k_NotLater => exact Mine.Gl.mk (by kernel_rfl)
  case k_NoValue => exact Mine.Gl.mk (by kernel_rfl)
  case k_NoReading => exact Mine.Gl.mk (by kernel_rfl)
  case b_len => exact Mine.Bi.mk (by kernel_rfl) (by decide +kernel) (by decide)
  case b_min => exact Mine.Bi.mk (by kernel_rfl) (by decide +kernel) (by decide)
  case b_max => exact Mine.Bi.mk (by kernel_rfl) (by decide +kernel) (by decide)
  case b_isinstance => exact Mine.Bi.mk (by kernel_rfl) (by decide +kernel) (by decide)
  case b_sorted => exact Mine.Bi.mk (by kernel_rfl) (by decide +kernel) (by decide)
  case b_list => exact Mine.Bi.mk (by kernel_rfl) (by decide +kernel) (by decide)
  case b_tuple => exact Mine.Bi.mk (by kernel_rfl) (by decide +kernel) (by decide)
  case b_range => exact Mine.Bi.mk (by kernel_rfl) (by decide +kernel) (by decide)
  case b_int => exact Mine.Bi.mk (by kernel_rfl) (by decide +kernel) (by decide)
  case b_bool => exact Mine.Bi.mk (by kernel_rfl) (by decide +kernel) (by decide)
  case b_ValueError => exact Mine.Bi.mk (by kernel_rfl) (by decide +kernel) (by decide)
  case d_with_tariff => exact Mine.DefAt.mk' (by with_unfolding_all rfl) (by kernel_rfl) (Mine.argsN2 fun _ _ => by with_unfolding_all rfl)
  case d_tariff_on => exact Mine.DefAt.mk' (by with_unfolding_all rfl) (by kernel_rfl) (Mine.argsN2 fun _ _ => by with_unfolding_all rfl)
  case d_cost => exact Mine.DefAt.mk' (by with_unfolding_all rfl) (by kernel_rfl) (Mine.argsN2 fun _ _ => by with_unfolding_all rfl)
  case d_l_cell_at => exact Mine.DefAt.mk' (by with_unfolding_all rfl) (by kernel_rfl) (Mine.argsN2 fun _ _ => by with_unfolding_all rfl)
  case d_l_mixed => exact Mine.DefAt.mk' (by with_unfolding_all rfl) (by kernel_rfl) (Mine.argsN2 fun _ _ => by with_unfolding_all rfl)
  case d_l_whole => exact Mine.DefAt.mk' (by with_unfolding_all rfl) (by kernel_rfl) (Mine.argsN1 fun _ => by with_unfolding_all rfl)
  case d_l_tariff_by => exact Mine.DefAt.mk' (by with_unfolding_all rfl) (by kernel_rfl) (Mine.argsN2 fun _ _ => by with_unfolding_all rfl)
  case d_l_refused => exact Mine.DefAt.mk' (by with_unfolding_all rfl) (by kernel_rfl) (Mine.argsN2 fun _ _ => by with_unfolding_all rfl)
  case d_l_cost_right => exact Mine.DefAt.mk' (by with_unfolding_all rfl) (by kernel_rfl) (Mine.argsN2 fun _ _ => by with_unfolding_all rfl)
  case d_law => exact Mine.DefAt.mk' (by with_unfolding_all rfl) (by kernel_rfl) (Mine.argsN1 fun _ => by with_unfolding_all rfl)
  case e_StandsAlready => exact (by decide : ("StandsAlready" : Str) ∈ (["MeterError", "NoMeter", "StandsAlready", "NotLater", "NoValue", "NoReading"] : List Str))
  case x_StandsAlready => exact Mine.ExcK.of (by kernel_rfl)
  case m_StandsAlready => kernel_rfl
  case v_StandsAlready => kernel_rfl
  case i_StandsAlready_NoMeter => kernel_rfl
  case i_StandsAlready_StandsAlready => kernel_rfl
  case i_StandsAlready_NotLater => kernel_rfl
  case i_StandsAlready_NoValue => kernel_rfl
  case i_StandsAlready_NoReading => kernel_rfl
  case exs => decide +kernel
  case fa => exact (Option.some.inj ((mg_of KX T.g (n := "law") (by kernel_rfl)).symm.trans hmg))
  case hKl => exact Mine.noList (by kernel_rfl)
  case h63 => omega
  case hR =>
    intro s' hk hs
    obtain ⟨h', tk, rfl⟩ := hs
    exact ⟨.inl ⟨_, _, _, rfl, fun _ => rfl, .bool true, postW_of (r := PySem.Challenge.rw_uf050026_03.row.toRowW) rfl (w_eq_bool (w_res rfl) w_lit) rfl, fun _ => ⟨by simp, by simp⟩⟩, hk, rfl, hg⟩
