import Derived.Test.YtinopkpnlibopaaAbOps8
import Derived.MapKept
/- Maps. -/
set_option linter.unusedVariables false
set_option linter.unusedSimpArgs false
namespace Go.Proofs.Ytinopkpnlibopaa.Ab
open Go.RowKit

section
variable {P : Program} {E : Env} {c : Ctx} {o : Oper} {s : St} {b : Nat} {R : Type} {κ : Eff → Option R} {r : R}

/-- An object turns into another one, in its block. -/
theorem Rel.swap {s : St} {a : Act} {w w' : World} {μ : Nat → Value} {Nm : Nat → Prop} (hr : Rel c s a w μ Nm) {n : Nat} {o0 o1 : Obj} (hn : s.mem n = some o0) (hl0 : o0.live = true) (hl1 : o1.live = true) {g : Nat} (hg : blk (μ n) = some g) (hw : ∀ k, k ≠ g → w'.heap[k]? = w.heap[k]?) (hsz : w'.heap.size = w.heap.size) (h1 : w'.os = w.os) (h2 : w'.tape = w.tape) (h3 : w'.output = w.output)
    (hO : ∀ S' : Nat → Prop, (∀ k, stab c μ s.mem k → S' k) → ORel c μ Nm S' w' n o1) : Rel c { s with mem := upd1 s.mem n (some o1) } a w' μ Nm := by
  have hbase := (hr.stab_lt hn hl0 hg).1
  have hgS : ∀ k, stab c μ s.mem k → k ≠ g := fun k hk e => hk.2 n _ hn hl0 (by rw [hg, e])
  have hS : ∀ k, stab c μ s.mem k → stab c μ (upd1 s.mem n (some o1)) k := fun k hk => ⟨hk.1, fun n' o' hn' hl' => by
    rw [upd1_get] at hn'
    by_cases e : n = n'
    · subst e; exact hk.2 n _ hn hl0
    · simp only [e, if_false] at hn'; exact hk.2 n' o' hn' hl'⟩
  refine hr.next (s' := { s with mem := upd1 s.mem n (some o1) }) hr.size hr.defers (hr.below.trans ⟨h1, h2, h3, by omega, fun k hk hX => hw k (fun e => by subst e; rcases hbase with hb | hb; exact absurd hb (by omega); exact hX hb)⟩) (fun k hk hlt => hw k (hgS k hk)) (fun k hk _ => hS k hk) (fun _ _ => rfl) (fun _ h => h) (fun n' o' hn' => ?_) (fun n1 n2 p1 p2 q1 q2 l1 l2 hne k hk => ?_) (fun x => .inl ⟨rfl, rfl⟩)
  · simp only [upd1_get] at hn'
    by_cases e : n = n'
    · simp only [e, if_true] at hn'
      injection hn' with hn'; subst hn'; subst e
      exact .inr ⟨hr.names n _ hn, hO _ hS⟩
    · simp only [e, if_false] at hn'
      exact .inl ⟨hn', fun hl' k hk => hw k (fun e2 => hr.dist n n' _ o' hn hn' hl0 hl' e g hg (by rw [hk, e2]))⟩
  · simp only [upd1_get] at q1 q2
    have w1 : ∃ o1', s.mem n1 = some o1' ∧ o1'.live = true := by
      by_cases e : n = n1
      · subst e; exact ⟨_, hn, hl0⟩
      · simp only [e, if_false] at q1; exact ⟨p1, q1, l1⟩
    have w2 : ∃ o2', s.mem n2 = some o2' ∧ o2'.live = true := by
      by_cases e : n = n2
      · subst e; exact ⟨_, hn, hl0⟩
      · simp only [e, if_false] at q2; exact ⟨p2, q2, l2⟩
    obtain ⟨o1', w1, m1⟩ := w1
    obtain ⟨o2', w2, m2⟩ := w2
    exact hr.dist n1 n2 o1' o2' w1 w2 m1 m2 hne k hk

theorem mapOKB_ok (hE : EnvOK P E) {T : TypeId} {ak av : Bool} {tk tv : Ty} (h : mapOKB E T ak tk av tv = true) : ∃ k v, E.map T = some (k, v) ∧ P.underlying T = some (.map k v) ∧ E.agg k = ak ∧ E.agg v = av ∧ TyOK P E k tk ∧ TyOK P E v tv ∧ EqOK P ak k tk := by
  unfold mapOKB at h
  split at h
  · rename_i k v hm
    split at h
    · rename_i tk' tv' hk hv
      simp only [Bool.and_eq_true, beq_iff_eq] at h
      have e1 := Ty.beq_eq h.1
      have e2 := Ty.beq_eq h.2.1
      subst e1; subst e2
      have h3 := h.2.2.1
      have h4 := h.2.2.2.1
      subst h3; subst h4
      exact ⟨k, v, hm, hE.map T k v hm, rfl, rfl, hE.ty k _ hk, hE.ty v _ hv, hE.eqT k _ h.2.2.2.2.1 hk⟩
    · cases h
  · cases h

theorem packA_val {m : Nat → Option Obj} {μ : Nat → Value} {Nm S : Nat → Prop} {w : World} (hm : ∀ n o, m n = some o → ORel c μ Nm S w n o) {v : VT} {x : AV} {d : v.t.D} {ns : List Nat} {y : Value} (h : packA m v x = some (d, ns)) (hx : VRel μ Nm S w x y) : ∃ cs, y = wrapV v.agg cs ∧ (v.agg = false → cs.length = 1 ∧ ∀ u ∈ cs, u.oneCell' = true) ∧ Kd.FK v.t.kd w (withB μ m S ns) d cs := by
  unfold packA at h
  split at h
  · rename_i cs hA
    split at h
    · rename_i d' ns' hp
      injection h with h; injection h with h1 h2; subst h1; subst h2
      simp only [VRel] at hx
      obtain ⟨vs, rfl, hv⟩ := hx
      obtain ⟨v0, v1, he, hf, hr⟩ := pack_rel hm _ _ _ _ _ _ hp hv
      have := VRels_nil hr; subst this
      rw [List.append_nil] at he
      refine ⟨vs.toList, by rw [hA]; rfl, (fun h => by rw [hA] at h; cases h), by rw [he]; exact hf⟩
    · cases h
  · cases h
  · rename_i y' _ _ hA
    split at h
    · rename_i d' ns' hp
      injection h with h; injection h with h1 h2; subst h1; subst h2
      obtain ⟨v0, v1, he, hf, hr⟩ := pack_rel hm _ _ _ _ _ [y] hp (by simp only [VRels, and_true]; exact hx)
      have := VRels_nil hr; subst this
      rw [List.append_nil] at he
      refine ⟨[y], by rw [hA]; rfl, fun _ => ⟨rfl, fun u hu => ?_⟩, by rw [he]; exact hf⟩
      exact v.t.kd.one hf u (by rw [← he]; exact hu)
    · cases h

theorem setObj_map {w : World} {g : Nat} {l : Array MapEntry} {clk : Nat} (o : Go.Obj) (h : w.heap[g]? = some (.map l clk)) : (setObj g o).run P w = .ok () { w with heap := w.heap.setIfInBounds g o } := by simp [setObj, Sem.run, h]

/-! The search. -/
def expF (tk tv : Ty) (d : tk.D) : List (tk.D × tv.D) → List MapEntry → Nat → Option (Nat × Value)
  | x :: xs, e :: l, i => match beqD tk d x.1 with | true => some (i, e.val) | false => expF tk tv d xs l (i + 1)
  | _, _, _ => none

theorem equalIn_int (d : Nat) {T : TypeId} {k : IntKind} {x y : Int} {w : World} {k0 : IntKind} (hu : P.underlying T = some (.int k0)) : (Op.equalIn (d + 1) T (.int k x) (.int k y)).run P w = .ok (x == y) w := by
  simp [Op.equalIn, run_underlying hu, Result.andThen]
theorem equalIn_str (d : Nat) {T : TypeId} {x y : ByteArray} {w : World} (hu : P.underlying T = some .string) : (Op.equalIn (d + 1) T (.string x) (.string y)).run P w = .ok (x == y) w := by
  simp [Op.equalIn, run_underlying hu, Result.andThen]

theorem sameNow_equal {K : TypeId} {kind : TypeDesc} {x y : Value} {v : Bool} (hu : P.underlying K = some kind) (h : Instr.sameNow kind x y = some v) (w : World) : (Op.equal K x y).run P w = .ok v w := by
  unfold Instr.sameNow at h
  split at h
  · split at h
    · rename_i he
      injection h with h; subst h; subst he
      exact equalIn_int 9999 hu
    · cases h
  · injection h with h; subst h
    exact equalIn_str 9999 hu
  · injection h with h; subst h
    exact equalIn_bool 9999 hu
  · cases h

theorem getObj_map {w : World} {g : Nat} {l : Array MapEntry} {clk : Nat} (h : w.heap[g]? = some (.map l clk)) : (getObj g).run P w = .ok (.map l clk) w := by simp [getObj, Sem.run, h]

theorem findAsking_run {K : TypeId} {ak av : Bool} {tk tv : Ty} (hK : EqOK P ak K tk) {S : Nat → Prop} {w : World} (d : tk.D) : ∀ (xs : List (tk.D × tv.D)) (l : List MapEntry) (i : Nat), ents S w ak tk av tv xs l → (Instr.findAsking K (wrapV ak (valsD tk d)) l i).run P w = .ok (expF tk tv d xs l i) w
  | [], [], i, _ => by simp [Instr.findAsking, expF]
  | [], _ :: _, _, h => h.elim
  | _ :: _, [], _, h => h.elim
  | x :: xs, e :: l, i, h => by
    simp only [ents] at h
    obtain ⟨⟨h1, _⟩, h5⟩ := h
    have h2 := hK.equal d x.1 w
    rw [← h1] at h2
    simp only [Instr.findAsking, Sem.run_bind, h2, Result.andThen_ok, expF]
    cases hb : beqD tk d x.1 with
    | true => simp
    | false => simpa using findAsking_run hK d xs l (i + 1) h5

theorem findNow_run {K : TypeId} {kind : TypeDesc} {ak av : Bool} {tk tv : Ty} (hu : P.underlying K = some kind) (hK : EqOK P ak K tk) {S : Nat → Prop} {w : World} (d : tk.D) : ∀ (xs : List (tk.D × tv.D)) (l : List MapEntry) (i : Nat) (q : Option (Nat × Value)), ents S w ak tk av tv xs l → Instr.findNow kind (wrapV ak (valsD tk d)) l i = some q → q = expF tk tv d xs l i
  | [], [], i, q, _, h => by simp [Instr.findNow] at h; simp [expF, h]
  | [], _ :: _, _, _, h, _ => h.elim
  | _ :: _, [], _, _, h, _ => h.elim
  | x :: xs, e :: l, i, q, h, hq => by
    simp only [ents] at h
    obtain ⟨⟨h1, _⟩, h5⟩ := h
    have h2 := hK.equal d x.1 w
    rw [← h1] at h2
    simp only [Instr.findNow] at hq
    simp only [expF]
    split at hq
    · rename_i hs
      rw [sameNow_equal hu hs w] at h2
      injection h2 with h2 _
      rw [← h2]
      injection hq with hq
      exact hq.symm
    · rename_i hs
      rw [sameNow_equal hu hs w] at h2
      injection h2 with h2 _
      rw [← h2]
      exact findNow_run hu hK d xs l (i + 1) q h5 hq
    · cases hq

theorem findKey_run {K : TypeId} {ak av : Bool} {tk tv : Ty} (hT : ∃ kind, P.underlying K = some kind) (hK : EqOK P ak K tk) {S : Nat → Prop} {w : World} (d : tk.D) {xs : List (tk.D × tv.D)} {l : List MapEntry} (h : ents S w ak tk av tv xs l) : (Instr.findKey K (wrapV ak (valsD tk d)) l).run P w = .ok (expF tk tv d xs l 0) w := by
  obtain ⟨kind, hu⟩ := hT
  simp only [Instr.findKey, Sem.run_bind, run_underlying hu, Result.andThen_ok]
  split
  · rename_i q hq
    rw [findNow_run hu hK d xs l 0 q h hq]
    rfl
  · exact findAsking_run hK d xs l 0 h

theorem expF_look {ak av : Bool} {tk tv : Ty} {S : Nat → Prop} {w : World} (d : tk.D) : ∀ (xs : List (tk.D × tv.D)) (l : List MapEntry) (i : Nat), ents S w ak tk av tv xs l →
    (expF tk tv d xs l i = none ∧ lookD tk tv d xs = none ∧ ∀ z, updD tk tv d z xs = xs ++ [(d, z)]) ∨
    ∃ j x e, xs[j]? = some x ∧ l[j]? = some e ∧ expF tk tv d xs l i = some (i + j, e.val) ∧ lookD tk tv d xs = some x.2 ∧ beqD tk d x.1 = true ∧ ∀ z, updD tk tv d z xs = xs.set j (d, z)
  | [], [], i, _ => .inl ⟨rfl, rfl, fun _ => rfl⟩
  | [], _ :: _, _, h => h.elim
  | _ :: _, [], _, h => h.elim
  | x :: xs, e :: l, i, h => by
    simp only [ents] at h
    obtain ⟨_, h5⟩ := h
    simp only [expF, lookD, updD]
    cases hb : beqD tk d x.1 with
    | true => exact .inr ⟨0, x, e, rfl, rfl, rfl, rfl, hb, fun _ => rfl⟩
    | false =>
      rcases expF_look d xs l (i + 1) h5 with ⟨h1, h2, h3⟩ | ⟨j, x', e', h1, h2, h3, h4, h5, h6⟩
      · exact .inl ⟨h1, h2, fun z => by simp [h3 z]⟩
      · exact .inr ⟨j + 1, x', e', by simpa using h1, by simpa using h2, by simp only [h3]; congr 2; omega, h4, h5, fun z => by simp [h6 z]⟩

theorem ents_set {ak av : Bool} {tk tv : Ty} {S : Nat → Prop} {w : World} {x : tk.D × tv.D} {f : MapEntry → MapEntry} : ∀ {xs : List (tk.D × tv.D)} {l : List MapEntry} (j : Nat), ents S w ak tk av tv xs l → (∀ e, (f e).key = wrapV ak (valsD tk x.1) ∧ ∃ cs, (f e).val = wrapV av cs ∧ (av = false → cs.length = 1 ∧ ∀ u ∈ cs, u.oneCell' = true) ∧ Kd.FK tv.kd w S x.2 cs) → ents S w ak tk av tv (xs.set j x) (l.modify j f)
  | [], [], j, _, _ => by cases j <;> simp [ents, List.modify_nil]
  | [], _ :: _, _, h, _ => h.elim
  | _ :: _, [], _, h, _ => h.elim
  | y :: xs, e :: l, 0, h, hf => by
    simp only [ents] at h
    simp only [List.set_cons_zero, List.modify_zero_cons, ents]
    exact ⟨hf e, h.2⟩
  | y :: xs, e :: l, j + 1, h, hf => by
    simp only [ents] at h
    simp only [List.set_cons_succ, List.modify_succ_cons, ents]
    exact ⟨h.1, ents_set j h.2 hf⟩

theorem ents_push {ak av : Bool} {tk tv : Ty} {S : Nat → Prop} {w : World} {x : tk.D × tv.D} {e : MapEntry} : ∀ {xs : List (tk.D × tv.D)} {l : List MapEntry}, ents S w ak tk av tv xs l → (e.key = wrapV ak (valsD tk x.1) ∧ ∃ cs, e.val = wrapV av cs ∧ (av = false → cs.length = 1 ∧ ∀ u ∈ cs, u.oneCell' = true) ∧ Kd.FK tv.kd w S x.2 cs) → ents S w ak tk av tv (xs ++ [x]) (l ++ [e])
  | [], [], _, he => ⟨he, trivial⟩
  | [], _ :: _, h, _ => h.elim
  | _ :: _, [], h, _ => h.elim
  | y :: xs, e :: l, h, he => by
    simp only [ents] at h
    exact ⟨h.1, ents_push h.2 he⟩

theorem ents_get {ak av : Bool} {tk tv : Ty} {S : Nat → Prop} {w : World} {x : tk.D × tv.D} {e : MapEntry} : ∀ {xs : List (tk.D × tv.D)} {l : List MapEntry} (j : Nat), ents S w ak tk av tv xs l → xs[j]? = some x → l[j]? = some e → e.key = wrapV ak (valsD tk x.1) ∧ ∃ cs, e.val = wrapV av cs ∧ (av = false → cs.length = 1 ∧ ∀ u ∈ cs, u.oneCell' = true) ∧ Kd.FK tv.kd w S x.2 cs
  | [], [], j, _, hx, _ => by simp at hx
  | [], _ :: _, _, h, _, _ => h.elim
  | _ :: _, [], _, h, _, _ => h.elim
  | y :: xs, e' :: l, 0, h, hx, he => by
    simp only [ents] at h
    simp at hx he
    subst hx; subst he
    exact h.1
  | y :: xs, e' :: l, j + 1, h, hx, he => by
    simp only [ents] at h
    simp at hx he
    exact ents_get j h.2 hx he

theorem beqD_eq : ∀ (t : Ty) (a b : t.D), beqD t a b = true → a = b
  | .unit, _, _, _ => rfl
  | .int _, a, b, h => eq_of_beq (α := Int) h
  | .bool, a, b, h => eq_of_beq (α := Bool) h
  | .str, _, _, h => by cases h
  | .sl _ _, _, _, h => by cases h
  | .pair t u, a, b, h => by
    simp only [beqD, Bool.and_eq_true] at h
    exact Prod.ext (beqD_eq t _ _ h.1) (beqD_eq u _ _ h.2)

theorem sameBits_one {n : Nat} {v : Value} (h : (∃ k i, v = .int k i) ∨ (∃ x, v = .bool x)) : Instr.sameBits n v v = true := by
  rcases h with ⟨k, i, rfl⟩ | ⟨x, rfl⟩ <;> cases n <;> simp [Instr.sameBits]

theorem vals_simple : ∀ (t : Ty), t.nos = true → ∀ (x : t.D) (v : Value), v ∈ valsD t x → (∃ k i, v = .int k i) ∨ (∃ x, v = .bool x)
  | .unit, _, _, _, h => by cases h
  | .int k, _, x, v, h => by simp only [valsD, List.mem_singleton] at h; exact .inl ⟨k, x, h⟩
  | .bool, _, x, v, h => by simp only [valsD, List.mem_singleton] at h; exact .inr ⟨x, h⟩
  | .str, h, _, _, _ => by cases h
  | .sl _ _, h, _, _, _ => by cases h
  | .pair a b, hf, x, v, h => by
    simp only [Ty.nos, Bool.and_eq_true] at hf
    rcases List.mem_append.1 h with h | h
    · exact vals_simple a hf.1 _ v h
    · exact vals_simple b hf.2 _ v h

theorem vals_len : ∀ (t : Ty), t.flat = true → ∀ (x : t.D), (valsD t x).length = t.sz
  | .unit, _, _ | .int _, _, _ | .bool, _, _ | .str, _, _ => rfl
  | .sl _ _, h, _ => by cases h
  | .pair a b, h, x => by
    simp only [Ty.flat, Bool.and_eq_true] at h
    simp [valsD, Ty.sz, vals_len a h.1, vals_len b h.2]

theorem sameBits_key {ak : Bool} {t : Ty} (hf : t.nos = true) (x : t.D) (hl : ak = false → (valsD t x).length = 1) : Instr.sameBits 10000 (wrapV ak (valsD t x)) (wrapV ak (valsD t x)) = true := by
  cases ak with
  | true =>
    simp only [wrapV, Instr.sameBits, beq_self_eq_true, Bool.true_and]
    rw [List.all_eq_true]
    rintro ⟨u, v⟩ hp
    obtain ⟨i, hi, e⟩ := List.mem_iff_getElem.1 hp
    simp only [List.getElem_zip, Prod.mk.injEq] at e
    obtain ⟨e1, e2⟩ := e
    have : u = v := by rw [← e1, ← e2]
    subst this
    exact sameBits_one (vals_simple t hf x u (by rw [← e1]; exact List.getElem_mem _))
  | false =>
    have h1 := hl rfl
    cases hv : valsD t x with
    | nil => rw [hv] at h1; cases h1
    | cons u l =>
      simp only [wrapV, List.getD_cons_zero]
      exact sameBits_one (vals_simple t hf x u (by rw [hv]; exact List.mem_cons_self))

theorem makeMap_ok (hE : EnvOK P E) {T k v : TypeId} {tk tv : Ty} (ho : o.op = .makeMap T none) (hT : E.map T = some (k, v)) : OpOK P c o s b ⟨.own b, [(b, some (.mp T (E.agg k) tk (E.agg v) tv []))], [b]⟩ := by
  intro s' a w μ Nm next Q hag hr hf hd hn
  have hrun : (execOp a.eval o).run P w = .ok (.value (.map (some w.heap.size))) (w.alloc (.map #[] 0)) := by
    simp only [execOp, ho]
    exact run_v (by simp [Instr.makeMap, Sem.run_bind, Result.andThen])
  refine wp_value hrun ?_
  obtain ⟨μ', Nm', g1, g2, g3, g4, g5, g6⟩ := hr.add (below_alloc (Below.refl _ _) (.map #[] 0)) b (hf b (Nat.le_refl _) (by omega)) (.mp T (E.agg k) tk (E.agg v) tv []) (.map (some w.heap.size)) (fun k hk => by simp [blk] at hk; omega) (fun μ' Nm' S' hμ hb hN hS hS2 => by
    simp only [ORel]
    exact ⟨w.heap.size, #[], 0, hb, .inl hr.below.size, by show (w.heap.push _)[w.heap.size]? = _; simp, trivial⟩)
  have g7 := g1.put o.dst hd (v := .own b) (x := .map (some w.heap.size)) (by simp only [VRel]; exact ⟨g2, g3.symm, rfl⟩)
  refine hn _ _ μ' Nm' ?_ (fun n h => (g4 n h).imp id (fun e => by omega))
  rw [app_put]
  rw [put_mem] at g7
  exact g7

theorem len_map_ok (hE : EnvOK P E) {T k v : TypeId} {ts : List TypeId} {cl : Call} {n : Nat} {ak av : Bool} {tk tv : Ty} {es : List (tk.D × tv.D)} (ho : o.op = .call cl) (hc : cl.callee = .builtin .len) (hts : cl.argTypes.toList = T :: ts) (hT : E.map T = some (k, v)) {y : Operand} (hy : cl.args.toList = [y]) (hx : s.op y = .own n) (hm : s.mem n = some (.mp T ak tk av tv es)) : OpOK P c o s b ⟨.int .i64 es.length, [], [n]⟩ := by
  refine OpOK.pure fun s' a w μ Nm hag hr => ?_
  have h1 := hr.op y
  rw [hag.ops y (by simp [Op.operands, ho, Call.operands, hc, hy]), hx] at h1
  simp only [VRel] at h1
  have hm' : s'.mem n = some (.mp T ak tk av tv es) := by rw [hag.mem n (by simp)]; exact hm
  have ho' := hr.objs n _ hm'
  simp only [ORel] at ho'
  obtain ⟨g, l, clk, e1, _, e3, e4⟩ := ho'
  rw [e1] at h1
  have hu := hE.map T k v hT
  have hlen : ∀ {xs : List (tk.D × tv.D)} {l : List MapEntry}, ents (stab c μ s'.mem) w ak tk av tv xs l → xs.length = l.length := by
    intro xs
    induction xs with
    | nil => intro l h; cases l with
      | nil => rfl
      | cons _ _ => exact h.elim
    | cons x xs ih => intro l h; cases l with
      | nil => exact h.elim
      | cons e l => simp only [ents] at h; simp [ih h.2]
  have f1 : cl.argTypes[0]? = some T := by rw [← Array.getElem?_toList, hts]; rfl
  have f2 : (cl.args.map a.eval)[0]? = some (.map (some g)) := by rw [← Array.getElem?_toList, Array.toList_map, hy]; simp [h1.2.1]
  have f3 : (Builtin.len_ cl.argTypes o.type (cl.args.map a.eval)).run P w = .ok (.int .i64 es.length) w := by
    have := hlen e4
    simp [Builtin.len_, f1, f2, run_underlying hu, Sem.run_bind, Result.andThen, goInt, getObj_map e3, this]
  exact ⟨_, by rw [exec_builtin ho hc]; exact run_v f3, by simp only [VRel]⟩

theorem zeroValue_run {T : TypeId} {t : Ty} (hT : TyOK P E T t) (w : World) : (zeroValue T).run P w = .ok (wrapV (E.agg T) (zeroV t)) w := by
  obtain ⟨i, hi, hz⟩ := hT.zero
  simp [zeroValue, typeInfo, program, Sem.run_bind, Sem.run, hi, hz, Result.andThen]

theorem lookup_ok (hE : EnvOK P E) {T : TypeId} {x i : Operand} {cok : Bool} {n : Nat} {ak av : Bool} {tk tv : Ty} {es : List (tk.D × tv.D)} {d : tk.D} {ns : List Nat} {z : tv.D} {v : AV} (ho : o.op = .lookup T x i cok) (hx : s.op x = .own n) (hm : s.mem n = some (.mp T ak tk av tv es)) (hB : mapOKB E T ak tk av tv = true) (hp : packA s.mem ⟨ak, tk, false⟩ (s.op i) = some (d, ns))
    (hz : z = match lookD tk tv d es with | some z => z | none => tv.z) (hv : (cok = true ∧ v = .tup [wrapA av (unpack tv z), .bool (!isNone (lookD tk tv d es))]) ∨ (cok = false ∧ v = wrapA av (unpack tv z))) : OpOK P c o s b ⟨v, [], n :: ns⟩ := by
  refine OpOK.pure fun s' a w μ Nm hag hr => ?_
  obtain ⟨k, v', hT, hu, hak, hav, hTk, hTv, hEq⟩ := mapOKB_ok hE hB
  have h1 := hr.op x
  rw [hag.ops x (by simp [Op.operands, ho]), hx] at h1
  simp only [VRel] at h1
  have hm' : s'.mem n = some (.mp T ak tk av tv es) := by rw [hag.mem n (by simp)]; exact hm
  have ho' := hr.objs n _ hm'
  simp only [ORel] at ho'
  obtain ⟨g, l, clk, e1, _, e3, e4⟩ := ho'
  rw [e1] at h1
  have h2 := hr.op i
  rw [hag.ops i (by simp [Op.operands, ho])] at h2
  obtain ⟨cs, k1, k2, k3⟩ := packA_val hr.objs (packA_congr hp (fun n' hn' => hag.mem n' (List.mem_cons_of_mem _ hn'))) h2
  have k4 := FK_vals tk hEq.flat d cs k3
  simp only at k1 k2
  rw [k4] at k1 k2
  obtain ⟨kind, hkind, _⟩ := hTk.und
  have hfind := findKey_run (P := P) ⟨kind, hkind⟩ hEq d e4
  have hkey := hEq.key l.isEmpty d w
  have hval : ∃ vs, (Instr.lookup T (a.eval x) (a.eval i) cok).run P w = .ok (if cok = true then .tuple #[wrapV av vs, .bool (!isNone (lookD tk tv d es))] else wrapV av vs) w ∧ Kd.FK tv.kd w (stab c μ s'.mem) z vs := by
    rcases expF_look d es l.toList 0 e4 with ⟨q1, q2, _⟩ | ⟨j, x', e', q1, q2, q3, q4, _, _⟩
    · refine ⟨zeroV tv, ?_, by rw [hz, q2]; exact zero_FK tv⟩
      rw [h1.2.1, k1, q2]
      rw [q1] at hfind
      simp only [Instr.lookup, Sem.run_bind, run_underlying hu, Result.andThen_ok, getObj_map e3, Sem.run_pure, hkey, hfind, zeroValue_run hTv w, hav, isNone, Bool.not_true]
    · obtain ⟨_, vs, q5, _, q7⟩ := ents_get j e4 q1 q2
      refine ⟨vs, ?_, by rw [hz, q4]; exact q7⟩
      rw [h1.2.1, k1, q4]
      rw [q3] at hfind
      simp only [Instr.lookup, Sem.run_bind, run_underlying hu, Result.andThen_ok, getObj_map e3, Sem.run_pure, hkey, hfind, q5, isNone, Bool.not_false]
  obtain ⟨vs, hrun, hv2⟩ := hval
  have hrel : VRel μ Nm (stab c μ s'.mem) w (wrapA av (unpack tv z)) (wrapV av vs) := wrap_rel (unpack_rel _ _ _ hv2)
  refine ⟨_, by simp only [execOp, ho]; exact run_v hrun, ?_⟩
  rcases hv with ⟨hc, rfl⟩ | ⟨hc, rfl⟩
  · rw [if_pos hc]
    simp only [VRel]
    exact ⟨_, rfl, by simp only [VRels, VRel, and_true]; exact hrel⟩
  · rw [if_neg (by rw [hc]; simp)]
    exact hrel

theorem ents_len {ak av : Bool} {tk tv : Ty} {S : Nat → Prop} {w : World} : ∀ {xs : List (tk.D × tv.D)} {l : List MapEntry}, ents S w ak tk av tv xs l → xs.length = l.length
  | [], [], _ => rfl
  | [], _ :: _, h => h.elim
  | _ :: _, [], h => h.elim
  | x :: xs, e :: l, h => by simp only [ents] at h; simp [ents_len h.2]

theorem update_ok (hE : EnvOK P E) {T : TypeId} {x i y : Operand} {n : Nat} {ak av : Bool} {tk tv : Ty} {es : List (tk.D × tv.D)} {d : tk.D} {z : tv.D} {ns0 ns : List Nat} (ho : o.op = .mapUpdate T x i y ∨ o.op = .insert T x i y) (hx : s.op x = .own n) (hm : s.mem n = some (.mp T ak tk av tv es)) (hB : mapOKB E T ak tk av tv = true) (hp : packA s.mem ⟨ak, tk, false⟩ (s.op i) = some (d, ns0)) (hq : packA s.mem ⟨av, tv, false⟩ (s.op y) = some (z, ns)) (hns : memN n ns = false) :
    OpOK P c o s b ⟨.undef, frz s.mem ns ++ [(n, some (.mp T ak tk av tv (updD tk tv d z es)))], n :: (ns0 ++ ns)⟩ := by
  intro s' a w μ Nm next Q hag hr0 hf hd hn
  obtain ⟨k, v', hT, hu, hak, hav, hTk, hTv, hEq⟩ := mapOKB_ok hE hB
  have hops : ∀ u ∈ [x, i, y], s'.op u = s.op u := fun u hu => hag.ops u (by rcases ho with ho | ho <;> simp [Op.operands, ho] <;> simpa using hu)
  have h1 := hr0.op x
  rw [hops x (by simp), hx] at h1
  simp only [VRel] at h1
  have hm' : s'.mem n = some (.mp T ak tk av tv es) := by rw [hag.mem n (by simp)]; exact hm
  rw [frz_agree hag (ns := ns) (fun n hn => by simp [hn])] at hn
  have hnot := frz_mem_ne (m := s.mem) hns
  have h2 := hr0.op i
  rw [hops i (by simp)] at h2
  have h3 := hr0.op y
  rw [hops y (by simp)] at h3
  obtain ⟨cs, k1, k2, k3⟩ := packA_val hr0.objs (packA_congr hp (fun n' hn' => hag.mem n' (by simp [hn']))) h2
  have k4 := FK_vals tk hEq.flat d cs k3
  simp only at k1 k2
  rw [k4] at k1 k2
  have hq' := packA_congr (m' := s'.mem) hq (fun n' hn' => hag.mem n' (by simp [hn']))
  obtain ⟨vs, l1, l2, l3⟩ := packA_val hr0.objs hq' h3
  simp only at l1 l2 l3
  obtain ⟨g1, g2, g3, g4, g5⟩ := Rel.frzL ns (Froz.refl s'.mem) hr0
  have hS0 : ∀ k, withB μ s'.mem (stab c μ s'.mem) ns k → stab c μ (updL s'.mem (frz s'.mem ns)) k := by
    intro k hk
    rcases hk with hk | ⟨n', hn', hl, hk⟩
    · exact g2 k hk
    · obtain ⟨f, e', t', ys, hmm⟩ := packA_mem hq' n' hn'
      exact g3 n' hn' ⟨f, e', t', ys, hmm⟩ hl k hk
  have hm1 : updL s'.mem (frz s'.mem ns) n = some (.mp T ak tk av tv es) := by rw [g5 n hnot]; exact hm'
  have ho' := g1.objs n _ hm1
  simp only [ORel] at ho'
  obtain ⟨g, l, clk, e1, e2, e3, e4⟩ := ho'
  rw [e1] at h1
  obtain ⟨kind, hkind, _⟩ := hTk.und
  have hfind := findKey_run (P := P) ⟨kind, hkind⟩ hEq d e4
  have hkey := hEq.key false d w
  have hglt : g < w.heap.size := (Array.getElem?_eq_some_iff.1 e3).1
  have key : ∃ l' clk', (Instr.mapUpdate T (a.eval x) (a.eval i) (a.eval y)).run P w = .ok () { w with heap := w.heap.setIfInBounds g (.map l' clk') } ∧ ∀ (S' : Nat → Prop) (w' : World), (∀ k, stab c μ (updL s'.mem (frz s'.mem ns)) k → S' k) → (∀ k, k ≠ g → w'.heap[k]? = w.heap[k]?) → ents S' w' ak tk av tv (updD tk tv d z es) l'.toList := by
    have hgS : ∀ k, stab c μ (updL s'.mem (frz s'.mem ns)) k → k ≠ g := fun k hk e => hk.2 n _ hm1 rfl (by rw [e1, e]; rfl)
    have hnew : ∀ (S' : Nat → Prop) (w' : World), (∀ k, stab c μ (updL s'.mem (frz s'.mem ns)) k → S' k) → (∀ k, k ≠ g → w'.heap[k]? = w.heap[k]?) → Kd.FK tv.kd w' S' z vs := fun S' w' hS' hw' =>
      Kd.FK_mono (Kd.FK_step (Kd.FK_bound (Kd.FK_mono l3 hS0)) (fun k hk _ => hw' k (hgS k hk.1))) (fun k hk => hS' k hk.1)
    have hold : ∀ (S' : Nat → Prop) (w' : World), (∀ k, stab c μ (updL s'.mem (frz s'.mem ns)) k → S' k) → (∀ k, k ≠ g → w'.heap[k]? = w.heap[k]?) → ents S' w' ak tk av tv es l.toList := fun S' w' hS' hw' => ents_step (fun k hk _ => hw' k (hgS k hk)) (fun k hk _ => hS' k hk) e4
    rcases expF_look d es l.toList 0 e4 with ⟨q1, q2, q3⟩ | ⟨j, x', e', q1, q2, q3, q4, q5, q6⟩
    · refine ⟨l.push { key := wrapV ak (valsD tk d), val := wrapV av vs, born := clk }, clk + 1, ?_, fun S' w' hS' hw' => ?_⟩
      · rw [h1.2.1, k1, l1]
        rw [q1] at hfind
        simp only [Instr.mapUpdate, Sem.run_bind, run_underlying hu, Result.andThen_ok, getObj_map e3, hkey, hfind]
        rw [setObj_map _ e3]
      · rw [q3, Array.toList_push]
        exact ents_push (hold S' w' hS' hw') ⟨rfl, vs, rfl, l2, hnew S' w' hS' hw'⟩
    · have hx' := beqD_eq tk _ _ q5
      obtain ⟨q7, _⟩ := ents_get j e4 q1 q2
      refine ⟨l.modify j fun e => { e with key := wrapV ak (valsD tk d), val := wrapV av vs }, clk, ?_, fun S' w' hS' hw' => ?_⟩
      · rw [h1.2.1, k1, l1]
        rw [q3] at hfind
        have hk0 : (((l[0 + j]?).map (·.key)).getD (wrapV ak (valsD tk d))) = wrapV ak (valsD tk d) := by
          rw [Nat.zero_add, ← Array.getElem?_toList, q2]
          simp [q7, hx']
        simp only [Instr.mapUpdate, Sem.run_bind, run_underlying hu, Result.andThen_ok, getObj_map e3, hkey, hfind, hk0, Instr.keyThatStays, sameBits_key hEq.nos d (fun h => by rw [vals_len tk hEq.flat]; exact hEq.one h), if_true, Sem.run_pure]
        rw [setObj_map _ e3, Nat.zero_add]
      · rw [q6, Array.toList_modify]
        exact ents_set (x := (d, z)) j (hold S' w' hS' hw') (fun e => ⟨rfl, vs, rfl, l2, hnew S' w' hS' hw'⟩)
  obtain ⟨l', clk', hrun, hents⟩ := key
  have hrun' : (execOp a.eval o).run P w = .ok .skip { w with heap := w.heap.setIfInBounds g (.map l' clk') } := by
    rcases ho with ho | ho
    · simp only [execOp, ho]; exact run_u hrun
    · simp only [execOp, ho]; exact run_u hrun
  refine wp_skip' hrun' ?_
  have hw' : ∀ k, k ≠ g → ({ w with heap := w.heap.setIfInBounds g (.map l' clk') } : World).heap[k]? = w.heap[k]? := fun k hk => Array.getElem?_setIfInBounds_ne (Ne.symm hk)
  have g6 := g1.swap (o1 := .mp T ak tk av tv (updD tk tv d z es)) hm1 rfl rfl (g := g) (by rw [e1]; rfl) hw' (by simp) rfl rfl rfl (fun S' hS' => by
    simp only [ORel]
    exact ⟨g, l', clk', e1, e2, by show (w.heap.setIfInBounds g _)[g]? = _; simp [hglt], hents S' _ hS' hw'⟩)
  have g7 := g6.put o.dst hd (v := .undef) (x := undef) (by simp only [VRel])
  refine hn _ _ μ Nm ?_ (fun n hn => .inl hn)
  rw [app_put, updL_append]
  rw [put_mem, put_mem] at g7
  exact g7
end
end Go.Proofs.Ytinopkpnlibopaa.Ab
