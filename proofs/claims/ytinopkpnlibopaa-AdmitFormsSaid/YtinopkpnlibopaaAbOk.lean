import Derived.Test.YtinopkpnlibopaaAbData
import Derived.Deep.MidRow
/- What the tables must tell, what a function's contract says, and what it means that an operation is told rightly. -/
set_option linter.unusedVariables false
set_option linter.unusedSimpArgs false
namespace Go.Proofs.Ytinopkpnlibopaa.Ab
open Go.RowKit

def zeroV : Ty → List Value
  | .unit => [] | .int k => [.int k 0] | .bool => [.bool false] | .str => [.string ⟨#[]⟩] | .sl _ _ => [.slice none 0 0] | .pair a b => zeroV a ++ zeroV b

def descOf : Ty → Option TypeDesc
  | .int k => some (.int k) | .bool => some .bool | .str => some .string | .sl e _ => some (.slice e) | _ => none

structure TyOK (P : Program) (E : Env) (T : TypeId) (t : Ty) : Prop where
  und : ∃ d, P.underlying T = some d ∧ d.isRow = E.agg T
  desc : E.agg T = false → P.underlying T = descOf t
  info : ∃ i z, P.info? T = some i ∧ i.size = t.sz ∧ i.bytes = E.byt T ∧ i.zero = some z ∧ z.cells.toList = zeroV t
  zero : ∃ i, P.info? T = some i ∧ i.zero = some (wrapV (E.agg T) (zeroV t))
  pos : 0 < t.sz
  byt : 0 < E.byt T
  one : E.agg T = false → t.sz = 1

/-- What has come in: the parameters' values, what is lent. -/
structure EntOK (c : Ctx) (ps : List PT) (x : AD ps) (args : List Value) (μ : Nat → Value) (Nm : Nat → Prop) : Prop where
  np : c.np = pinsN ps
  pins : ∀ j, j < c.np → Nm j ∧ μ j = c.lent j
  bound : ∀ n, Nm n → n < (inP ps x 0 (pinsN ps)).2.2
  names : ∀ n o, updL (fun _ => none) (inP ps x 0 (pinsN ps)).2.1 n = some o → Nm n
  objs : ∀ n o, updL (fun _ => none) (inP ps x 0 (pinsN ps)).2.1 n = some o → ORel c μ Nm (stab c μ (updL (fun _ => none) (inP ps x 0 (pinsN ps)).2.1)) c.w0 n o
  dist : ∀ n n' o o', updL (fun _ => none) (inP ps x 0 (pinsN ps)).2.1 n = some o → updL (fun _ => none) (inP ps x 0 (pinsN ps)).2.1 n' = some o' → o.live = true → o'.live = true → n ≠ n' → ∀ k, blk (μ n) = some k → blk (μ n') ≠ some k
  vals : VRels μ Nm (stab c μ (updL (fun _ => none) (inP ps x 0 (pinsN ps)).2.1)) c.w0 (inP ps x 0 (pinsN ps)).1 args

/-- The frame of what goes out: what came in (nothing of it, where the results hold no rows of rows), what is lent, what is new. -/
def outC (flat : Bool) (c : Ctx) : Ctx := { okA := fun k => match flat with | true => False | false => c.okA k, X := c.X, w0 := c.w0, np := 0, lent := fun _ => undef }

/-- The updates of what goes out. -/
def outU (ps : List PT) (rs : List RT) (q : RD rs × MD ps) (pn : Nat → Nat) (b : Nat) : List (Nat × Option Obj) := (impR rs q.1 b).2.1 ++ (outP ps q.2 pn 0 (impR rs q.1 b).2.2).1
def outB (ps : List PT) (rs : List RT) (q : RD rs × MD ps) (pn : Nat → Nat) (b : Nat) : Nat := (outP ps q.2 pn 0 (impR rs q.1 b).2.2).2

structure ResAt (c : Ctx) (ps : List PT) (rs : List RT) (w' : World) (q : RD rs × MD ps) (v : Value) (b : Nat) (pn : Nat → Nat) (μ : Nat → Value) (Nm : Nat → Prop) : Prop where
  nm : ∀ n, Nm n ↔ (b ≤ n ∧ n < outB ps rs q pn b) ∨ ∃ j, j < c.np ∧ n = pn j
  lent : ∀ j, j < c.np → μ (pn j) = c.lent j
  objs : ∀ n o, updL (fun _ => none) (outU ps rs q pn b) n = some o → Nm n ∧ o.live = true ∧ ORel (outC (flatRT rs && flatMT ps) c) μ Nm (stab (outC (flatRT rs && flatMT ps) c) μ (updL (fun _ => none) (outU ps rs q pn b))) w' n o
  dist : ∀ n n' o o', updL (fun _ => none) (outU ps rs q pn b) n = some o → updL (fun _ => none) (outU ps rs q pn b) n' = some o' → n ≠ n' → ∀ k, blk (μ n) = some k → blk (μ n') ≠ some k
  val : VRel μ Nm (stab (outC (flatRT rs && flatMT ps) c) μ (updL (fun _ => none) (outU ps rs q pn b))) w' (tupA (impR rs q.1 b).1) v

def ResRel (c : Ctx) (ps : List PT) (rs : List RT) (w' : World) (q : RD rs × MD ps) (v : Value) : Prop :=
  ∀ (b : Nat) (pn : Nat → Nat), (∀ j, j < c.np → ¬ (b ≤ pn j ∧ pn j < outB ps rs q pn b)) → (∀ i j, i < c.np → j < c.np → pn i = pn j → i = j) → ∃ μ Nm, ResAt c ps rs w' q v b pn μ Nm

/-- A function's contract. -/
structure FnOK (P : Program) (f : FuncId) (F : Fn) : Prop where
  there : ∃ fn, P.funcs[f]? = some fn ∧ (fn.name == "runtime.NumGoroutine") = false ∧ fn.body.isNone = false
  calls : ∀ (k : Nat) (x : AD F.ps) (q : RD F.rs × MD F.ps), F.sem k x = some q → ∀ (c : Ctx) (args : List Value) (μ : Nat → Value) (Nm : Nat → Prop), EntOK c F.ps x args μ Nm →
    Calls P f args.toArray c.w0 fun e w' => ∃ v, e = .returned v ∧ BelowX c.X c.base c.w0 w' ∧ ResRel c F.ps F.rs w' q v

/-- Types that can be compared, as the evaluator compares. -/
structure EqOK (P : Program) (agg : Bool) (T : TypeId) (t : Ty) : Prop where
  flat : t.flat = true
  nos : t.nos = true
  one : agg = false → t.sz = 1
  equal : ∀ (x y : t.D) (w : World), (Op.equal T (wrapV agg (valsD t x)) (wrapV agg (valsD t y))).run P w = .ok (beqD t x y) w
  guard : agg = true → ∀ (op : BinOp) (X Y : Operand) (a b : Array Value) (w : World), (eqGuard op T X Y (.agg a) (.agg b)).run P w = .ok () w
  key : ∀ (e : Bool) (x : t.D) (w : World), (Instr.checkKey e 10000 T (wrapV agg (valsD t x))).run P w = .ok () w

structure EnvOK (P : Program) (E : Env) : Prop where
  ty : ∀ T t, E.ty T = some t → TyOK P E T t
  elem : ∀ T e, E.elem T = some e → P.underlying T = some (.slice e)
  fld : ∀ T f o U, E.fld T f = some (o, U) → ∃ fs fd, P.underlying T = some (.struct fs) ∧ fs[f]? = some fd ∧ fd.offset = o ∧ fd.type = U
  arr : ∀ T n U, E.arr T = some (n, U) → P.underlying T = some (.array n U)
  arrT : ∀ T n U, E.arr T = some (n, U) → ∃ u, E.ty U = some u
  build : ∀ T t, E.ty T = some t → E.agg T = true → E.arr T = none → ∃ (fs : Array Field) (pl : Array (Nat × Nat)), P.underlying T = some (.struct fs) ∧ (∀ w, (fs.mapM (fun f => do pure (f.offset, ← sizeOf f.type)) : Sem (Array (Nat × Nat))).run P w = .ok pl w) ∧ ∀ i off U u, E.fld T i = some (off, U) → E.ty U = some u → pl[i]? = some (off, u.sz)
  ik : ∀ T k, E.ik T = some k → P.underlying T = some (.int k)
  fn : ∀ f F, E.fn f = some F → FnOK P f F
  eqT : ∀ T t, E.eqT T = true → E.ty T = some t → EqOK P (E.agg T) T t
  map : ∀ T k v, E.map T = some (k, v) → P.underlying T = some (.map k v)

structure Agree (o : Oper) (s s' : St) (nm : List Nat) : Prop where
  ops : ∀ x ∈ o.op.operands.toList, s'.op x = s.op x
  n : s'.n = s.n
  mem : ∀ n ∈ nm, s'.mem n = s.mem n

/-- The operation does what is told of it, at every state that agrees where it looks. -/
def OpOK (P : Program) (c : Ctx) (o : Oper) (s : St) (b : Nat) (e : Eff) : Prop :=
  ∀ (s' : St) (a : Act) (w : World) (μ : Nat → Value) (Nm : Nat → Prop) (next : Act → World → Prop) (Q : Exit → Act → World → Prop),
    Agree o s s' e.nm → Rel c s' a w μ Nm → (∀ n, b ≤ n → n < b + 64 → ¬ Nm n) → (∀ d, o.dst = some d → d < s'.n) →
    (∀ a' w' μ' Nm', Rel c (s'.app o.dst e) a' w' μ' Nm' → (∀ n, Nm' n → Nm n ∨ (b ≤ n ∧ n < b + 64)) → next a' w') → o.wp P a w next Q

section
variable {P : Program} {c : Ctx} {o : Oper} {s : St} {b : Nat}

theorem app_nil (s : St) (d : Option Tmp) (v : AV) (nm : List Nat) : s.app d ⟨v, [], nm⟩ = s.put d v := by cases d <;> rfl

theorem wp_value {a : Act} {w w' : World} {v : Value} {next : Act → World → Prop} {Q : Exit → Act → World → Prop} (h : (execOp a.eval o).run P w = .ok (.value v) w') (hn : next (a.put o.dst v) w') : o.wp P a w next Q := by
  unfold Oper.wp
  rw [h]
  exact hn

theorem wp_skip' {a : Act} {w w' : World} {next : Act → World → Prop} {Q : Exit → Act → World → Prop} (h : (execOp a.eval o).run P w = .ok .skip w') (hn : next (a.put o.dst undef) w') : o.wp P a w next Q := by
  unfold Oper.wp
  rw [h]
  exact hn

theorem OpOK.pure {v : AV} {nm : List Nat} (h : ∀ s' a w μ Nm, Agree o s s' nm → Rel c s' a w μ Nm → ∃ x, (execOp a.eval o).run P w = .ok (.value x) w ∧ VRel μ Nm (stab c μ s'.mem) w v x) : OpOK P c o s b ⟨v, [], nm⟩ := by
  intro s' a w μ Nm next Q hag hr hf hd hn
  obtain ⟨x, h1, h2⟩ := h s' a w μ Nm hag hr
  refine wp_value h1 (hn _ _ μ Nm ?_ (fun n h => .inl h))
  rw [app_nil]
  exact hr.put o.dst hd h2

/-- Of a value: an operation that hands it on. -/
theorem run_v {m : Sem Value} {w w' : World} {x : Value} (h : m.run P w = .ok x w') : ((do pure (Next.value (← m))) : Sem Next).run P w = .ok (.value x) w' := by
  simp [Sem.run_bind, h, Result.andThen]

theorem run_u {m : Sem Unit} {w w' : World} (h : m.run P w = .ok () w') : ((do m; pure Next.skip) : Sem Next).run P w = .ok .skip w' := by
  simp [Sem.run_bind, h, Result.andThen]
end
end Go.Proofs.Ytinopkpnlibopaa.Ab
