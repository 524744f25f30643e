import Derived.Test.YtinopkpnlibopaaAbOk
/- Operations that hand on a value: each does what is told of it. -/
set_option linter.unusedVariables false
set_option linter.unusedSimpArgs false
namespace Go.Proofs.Ytinopkpnlibopaa.Ab
open Go.RowKit

section
variable {P : Program} {E : Env} {c : Ctx} {o : Oper} {s : St} {b : Nat} {R : Type} {κ : Eff → Option R} {r : R}

theorem move_ok {x : Operand} (ho : o.op = .move x) : OpOK P c o s b ⟨s.op x, [], []⟩ :=
  OpOK.pure fun s' a w μ Nm hag hr => ⟨a.eval x, by simp [execOp, ho], by rw [← hag.ops x (by simp [Op.operands, ho])]; exact hr.op x⟩

theorem assign_ok {x : Operand} (ho : o.op = .assign x) : OpOK P c o s b ⟨s.op x, [], []⟩ :=
  OpOK.pure fun s' a w μ Nm hag hr => ⟨a.eval x, by simp [execOp, ho], by rw [← hag.ops x (by simp [Op.operands, ho])]; exact hr.op x⟩

theorem extract_ok {x : Operand} {i : Nat} {vs : List AV} (ho : o.op = .extract x i) (hx : s.op x = .tup vs) (hi : Nat.blt i (lenA vs) = true) : OpOK P c o s b ⟨nthA vs i, [], []⟩ := by
  refine OpOK.pure fun s' a w μ Nm hag hr => ?_
  have h1 := hr.op x
  rw [hag.ops x (by simp [Op.operands, ho]), hx] at h1
  simp only [VRel] at h1
  obtain ⟨us, h2, h3⟩ := h1
  have h4 := VRels_len h3
  have hlt : i < us.size := by
    have : i < lenA vs := by simpa [Nat.blt_eq] using hi
    rw [lenA_eq] at this
    simp at h4; omega
  refine ⟨us[i], by simp [execOp, ho, h2, Instr.extract, hlt], ?_⟩
  have h5 := VRels_get h3 i
  simpa [List.getD, hlt] using h5

theorem pick_ok1 {k x y : Operand} (ho : o.op = .pick k x y) (hk : s.op k = .bool true) : OpOK P c o s b ⟨s.op x, [], []⟩ := by
  refine OpOK.pure fun s' a w μ Nm hag hr => ?_
  have h1 := hr.op k
  rw [hag.ops k (by simp [Op.operands, ho]), hk] at h1
  simp only [VRel] at h1
  exact ⟨a.eval x, by simp [execOp, ho, h1, asBool], by rw [← hag.ops x (by simp [Op.operands, ho])]; exact hr.op x⟩
theorem pick_ok2 {k x y : Operand} (ho : o.op = .pick k x y) (hk : s.op k = .bool false) : OpOK P c o s b ⟨s.op y, [], []⟩ := by
  refine OpOK.pure fun s' a w μ Nm hag hr => ?_
  have h1 := hr.op k
  rw [hag.ops k (by simp [Op.operands, ho]), hk] at h1
  simp only [VRel] at h1
  exact ⟨a.eval y, by simp [execOp, ho, h1, asBool], by rw [← hag.ops y (by simp [Op.operands, ho])]; exact hr.op y⟩

theorem eqGuard_int {op : BinOp} {T : TypeId} {X Y : Operand} {k k' : IntKind} {x y : Int} {w : World} : (eqGuard op T X Y (.int k x) (.int k' y)).run P w = .ok () w := by
  cases op <;> simp [eqGuard]
theorem eqGuard_bool {op : BinOp} {T : TypeId} {X Y : Operand} {x y : Bool} {w : World} : (eqGuard op T X Y (.bool x) (.bool y)).run P w = .ok () w := by
  cases op <;> simp [eqGuard]

theorem equalIn_bool (d : Nat) {T : TypeId} {x y : Bool} {w : World} (hu : P.underlying T = some .bool) : (Op.equalIn (d + 1) T (.bool x) (.bool y)).run P w = .ok (x == y) w := by
  simp [Op.equalIn, run_underlying hu]

theorem FK_vals {S : Nat → Prop} {w : World} : ∀ (t : Ty), t.flat = true → ∀ (x : t.D) (cs : List Value), Kd.FK t.kd w S x cs → cs = valsD t x
  | .unit, _, _, cs, h => (show cs = [] from h)
  | .int k, _, n, cs, h => (show cs = [.int k n] from h)
  | .bool, _, x, cs, h => (show cs = [.bool x] from h)
  | .str, _, x, cs, h => (show cs = [.string x] from h)
  | .sl _ _, hf, _, _, _ => by cases hf
  | .pair a b, hf, x, cs, h => by
    simp only [Ty.flat, Bool.and_eq_true] at hf
    obtain ⟨c0, c1, rfl, h0, h1⟩ := h
    rw [FK_vals a hf.1 _ _ h0, FK_vals b hf.2 _ _ h1]
    rfl

theorem pack_vals {t : Ty} {cs : List AV} {x : t.D} {ns : List Nat} {μ : Nat → Value} {Nm S : Nat → Prop} {w : World} {us : Array Value} (hf : t.flat = true) (h : pack (fun _ => none) t cs = some (x, [], ns)) (hv : VRels μ Nm S w cs us.toList) : us = (valsD t x).toArray := by
  obtain ⟨v0, v1, he, hfk, hr⟩ := pack_rel (c := ⟨fun _ => False, fun _ => False, w, 0, fun _ => undef⟩) (m := fun _ => none) (fun n o h => by cases h) _ _ _ _ _ _ h hv
  have : v1 = [] := by cases v1 with
    | nil => rfl
    | cons _ _ => simp only [VRels] at hr
  subst this
  rw [List.append_nil] at he
  rw [FK_vals t hf x _ hfk] at he
  rw [← he]

theorem intBin_ok {op : BinOp} {k : IntKind} {x y : Int} {κ : AV → Option R} (h : intBin op k x y κ = some r) : ∃ v, κ v = some r ∧ ∃ z, (∀ (T : TypeId) (w : World), (binOp op T (.int k x) (.int k y)).run P w = .ok z w) ∧ ∀ μ Nm S w, VRel μ Nm S w v z := by
  cases op <;> simp only [intBin] at h <;> try (cases h; done)
  · exact ⟨_, h, _, fun T w => by simp [binOp, Op.intArith]; rfl, fun _ _ _ _ => by simp only [VRel]⟩
  · exact ⟨_, h, _, fun T w => by simp [binOp, Op.intArith]; rfl, fun _ _ _ _ => by simp only [VRel]⟩
  · exact ⟨_, h, _, fun T w => by simp [binOp, Op.intArith]; rfl, fun _ _ _ _ => by simp only [VRel]⟩
  · split at h
    · cases h
    · rename_i hy
      exact ⟨_, h, _, fun T w => by simp [binOp, Op.intDiv, hy]; rfl, fun _ _ _ _ => by simp only [VRel]⟩
  · split at h
    · cases h
    · rename_i hy
      exact ⟨_, h, _, fun T w => by simp [binOp, Op.intDiv, hy]; rfl, fun _ _ _ _ => by simp only [VRel]⟩
  all_goals exact ⟨_, h, _, fun T w => by simp only [binOp, ne_eq, not_true_eq_false, if_false]; rfl, fun _ _ _ _ => by simp only [VRel]⟩

theorem equalIn_nil (d : Nat) {T e : TypeId} {A : Option Addr} {n c : Nat} {w : World} (hu : P.underlying T = some (.slice e)) : (Op.equalIn (d + 1) T (.slice A n c) (.slice none 0 0)).run P w = .ok A.isNone w := by
  cases A <;> simp [Op.equalIn, run_underlying hu, Result.andThen]

theorem nilA_ok (hE : EnvOK P E) {T : TypeId} {op : BinOp} {z : Bool} {x y : AV} {κ : AV → Option R} (_ : (Nat → Value) → (Nat → Prop) → (Nat → Prop) → World → Value → Value) (h : nilA E T op z κ = some r)
    (hx : ∀ (μ : Nat → Value) (Nm S : Nat → Prop) (w : World) (X Y : Operand) (xv yv : Value), VRel μ Nm S w x xv → VRel μ Nm S w y yv → ∃ A n c, xv = .slice A n c ∧ A.isNone = z ∧ yv = .slice none 0 0) :
    ∃ v, κ v = some r ∧ ∀ (μ : Nat → Value) (Nm S : Nat → Prop) (w : World) (X Y : Operand) (xv yv : Value), VRel μ Nm S w x xv → VRel μ Nm S w y yv → ∃ z, ((do eqGuard op T X Y xv yv; binOp op T xv yv) : Sem Value).run P w = .ok z w ∧ VRel μ Nm S w v z := by
  unfold nilA at h
  split at h
  · rename_i e hT
    refine ⟨_, h, fun μ Nm S w X Y xv yv h1 h2 => ⟨_, ?_, by simp only [VRel]; rfl⟩⟩
    obtain ⟨A, n, c, rfl, hA, rfl⟩ := hx μ Nm S w X Y xv yv h1 h2
    have hg : (eqGuard .eql T X Y (.slice A n c) (.slice none 0 0)).run P w = .ok () w := by simp [eqGuard]
    rw [Sem.run_bind, hg]
    simp only [Result.andThen, binOp, Sem.run_bind, Op.equal, Op.maxDepth, equalIn_nil 9999 (hE.elem T e hT), hA]
    rfl
  · rename_i e hT
    refine ⟨_, h, fun μ Nm S w X Y xv yv h1 h2 => ⟨_, ?_, by simp only [VRel]; rfl⟩⟩
    obtain ⟨A, n, c, rfl, hA, rfl⟩ := hx μ Nm S w X Y xv yv h1 h2
    have hg : (eqGuard .neq T X Y (.slice A n c) (.slice none 0 0)).run P w = .ok () w := by simp [eqGuard]
    rw [Sem.run_bind, hg]
    simp only [Result.andThen, binOp, Sem.run_bind, Op.equal, Op.maxDepth, equalIn_nil 9999 (hE.elem T e hT), hA]
    rfl
  · cases h

theorem binA_ok (hE : EnvOK P E) {T : TypeId} {op : BinOp} {x y : AV} {κ : AV → Option R} (h : binA E T op x y κ = some r) :
    ∃ v, κ v = some r ∧ ∀ (μ : Nat → Value) (Nm S : Nat → Prop) (w : World) (X Y : Operand) (xv yv : Value), VRel μ Nm S w x xv → VRel μ Nm S w y yv → ∃ z, ((do eqGuard op T X Y xv yv; binOp op T xv yv) : Sem Value).run P w = .ok z w ∧ VRel μ Nm S w v z := by
  cases x <;> cases y <;> simp only [binA] at h <;> try (cases h; done)
  case int.int k x k' y =>
    have gen : (match ikEq k k' with | true => intBin op k x y κ | false => none) = some r → ∃ v, κ v = some r ∧ ∀ (μ : Nat → Value) (Nm S : Nat → Prop) (w : World) (X Y : Operand) (xv yv : Value), VRel μ Nm S w (.int k x) xv → VRel μ Nm S w (.int k' y) yv → ∃ z, ((do eqGuard op T X Y xv yv; binOp op T xv yv) : Sem Value).run P w = .ok z w ∧ VRel μ Nm S w v z := by
      intro g
      clear h
      cases he : ikEq k k' with
      | true =>
        rw [he] at g
        have := ikEq_eq he; subst this
        obtain ⟨v, h1, z, h2, h3⟩ := intBin_ok (P := P) g
        refine ⟨v, h1, fun μ Nm S w X Y xv yv hx hy => ⟨z, ?_, h3 _ _ _ _⟩⟩
        simp only [VRel] at hx hy
        subst hx; subst hy
        rw [Sem.run_bind, eqGuard_int]
        exact h2 T w
      | false => rw [he] at g; cases g
    cases op <;> first
      | exact gen h
      | (by_cases hy : y < 0
         · simp only [hy, if_true] at h; cases h
         · simp only [hy, if_false] at h
           refine ⟨_, h, fun μ Nm S w X Y xv yv hx hy' => ⟨_, ?_, by simp only [VRel]; rfl⟩⟩
           simp only [VRel] at hx hy'
           subst hx; subst hy'
           rw [Sem.run_bind, eqGuard_int]
           simp [binOp, Op.shift, hy, Result.andThen])
  case bool.bool x y =>
    split at h
    · rename_i hT hA
      have hu : P.underlying T = some .bool := (hE.ty T _ hT).desc hA
      refine ⟨_, h, fun μ Nm S w X Y xv yv hx hy => ⟨_, ?_, by simp only [VRel]; rfl⟩⟩
      simp only [VRel] at hx hy
      subst hx; subst hy
      rw [Sem.run_bind, eqGuard_bool]
      simp only [Result.andThen, binOp, Sem.run_bind, Op.equal, Op.maxDepth, equalIn_bool 9999 hu]
      rfl
    · rename_i hT hA
      have hu : P.underlying T = some .bool := (hE.ty T _ hT).desc hA
      refine ⟨_, h, fun μ Nm S w X Y xv yv hx hy => ⟨_, ?_, by simp only [VRel]; rfl⟩⟩
      simp only [VRel] at hx hy
      subst hx; subst hy
      rw [Sem.run_bind, eqGuard_bool]
      simp only [Result.andThen, binOp, Sem.run_bind, Op.equal, Op.maxDepth, equalIn_bool 9999 hu]
      rfl
    · cases h
  case nil.nil =>
    refine nilA_ok hE (fun _ _ _ _ _ => .slice none 0 0) h (fun μ Nm S w X Y xv yv hx hy => ?_)
    simp only [VRel] at hx hy
    exact ⟨none, 0, 0, hx, rfl, hy⟩
  case rz.nil z e t xs =>
    refine nilA_ok hE (fun _ _ _ _ _ => .slice none 0 0) h (fun μ Nm S w X Y xv yv hx hy => ?_)
    simp only [VRel] at hx hy
    obtain ⟨_, A, n, c, h1, h2⟩ := hx
    exact ⟨A, n, c, h1, h2, hy⟩
  case agg.agg xs ys =>
    split at h
    · rename_i t hT he hA
      split at h
      · rename_i da _ db _ hpa hpb
        have hok := hE.eqT T t he hT
        have both : ∀ (μ : Nat → Value) (Nm S : Nat → Prop) (w : World) (xv yv : Value), VRel μ Nm S w (.agg xs) xv → VRel μ Nm S w (.agg ys) yv → ∃ us vs : Array Value, xv = .agg us ∧ yv = .agg vs ∧ xv = wrapV (E.agg T) (valsD t da) ∧ yv = wrapV (E.agg T) (valsD t db) := by
          intro μ Nm S w xv yv hx hy
          simp only [VRel] at hx hy
          obtain ⟨us, rfl, hu⟩ := hx
          obtain ⟨vs, rfl, hv⟩ := hy
          refine ⟨us, vs, rfl, rfl, ?_, ?_⟩
          · rw [hA]; simp only [wrapV]; rw [← pack_vals hok.flat hpa hu]
          · rw [hA]; simp only [wrapV]; rw [← pack_vals hok.flat hpb hv]
        split at h
        · refine ⟨_, h, fun μ Nm S w X Y xv yv hx hy => ⟨_, ?_, by simp only [VRel]; rfl⟩⟩
          obtain ⟨us, vs, e1, e2, e3, e4⟩ := both μ Nm S w xv yv hx hy
          have h1 := hok.guard hA .eql X Y us vs w
          have h2 := hok.equal da db w
          rw [← e3, ← e4] at h2
          rw [e1, e2] at h2 ⊢
          rw [Sem.run_bind, h1]
          simp only [Result.andThen, binOp, Sem.run_bind, h2]
          rfl
        · refine ⟨_, h, fun μ Nm S w X Y xv yv hx hy => ⟨_, ?_, by simp only [VRel]; rfl⟩⟩
          obtain ⟨us, vs, e1, e2, e3, e4⟩ := both μ Nm S w xv yv hx hy
          have h1 := hok.guard hA .neq X Y us vs w
          have h2 := hok.equal da db w
          rw [← e3, ← e4] at h2
          rw [e1, e2] at h2 ⊢
          rw [Sem.run_bind, h1]
          simp only [Result.andThen, binOp, Sem.run_bind, h2]
          rfl
        · cases h
      · cases h
    · cases h

theorem bin_ok (hE : EnvOK P E) {T T' : TypeId} {op : BinOp} {x y : Operand} (ho : o.op = .binOp op T x y T') (h : binA E T op (s.op x) (s.op y) (fun v => κ ⟨v, [], []⟩) = some r) : ∃ e, κ e = some r ∧ (freshB s.mem b e.upd = true → OpOK P c o s b e) := by
  obtain ⟨v, h1, h2⟩ := binA_ok hE h
  refine ⟨_, h1, fun _ => OpOK.pure fun s' a w μ Nm hag hr => ?_⟩
  have hx := hr.op x
  have hy := hr.op y
  rw [hag.ops x (by simp [Op.operands, ho])] at hx
  rw [hag.ops y (by simp [Op.operands, ho])] at hy
  obtain ⟨z, h3, h4⟩ := h2 μ Nm _ w x y _ _ hx hy
  exact ⟨z, by simp only [execOp, ho]; exact run_v h3, h4⟩

theorem un_ok {T : TypeId} {op : UnOp} {x : Operand} (ho : o.op = .unOp op T x) (h : unA op (s.op x) (fun v => κ ⟨v, [], []⟩) = some r) : ∃ e, κ e = some r ∧ (freshB s.mem b e.upd = true → OpOK P c o s b e) := by
  have key : ∃ v, κ ⟨v, [], []⟩ = some r ∧ ∀ (μ : Nat → Value) (Nm S : Nat → Prop) (w : World) (xv : Value), VRel μ Nm S w (s.op x) xv → ∃ z, (Op.unary op xv).run P w = .ok z w ∧ VRel μ Nm S w v z := by
    generalize s.op x = v at h
    cases op <;> cases v <;> simp only [unA] at h <;> try (cases h; done)
    all_goals
      refine ⟨_, h, fun μ Nm S w xv hx => ?_⟩
      simp only [VRel] at hx
      subst hx
      exact ⟨_, rfl, by simp only [VRel]⟩
  obtain ⟨v, h1, h2⟩ := key
  refine ⟨_, h1, fun _ => OpOK.pure fun s' a w μ Nm hag hr => ?_⟩
  have hx := hr.op x
  rw [hag.ops x (by simp [Op.operands, ho])] at hx
  obtain ⟨z, h3, h4⟩ := h2 μ Nm _ w _ hx
  exact ⟨z, by simp only [execOp, ho]; exact run_v h3, h4⟩

theorem convert_ok (hE : EnvOK P E) {S T : TypeId} {x : Operand} {k k' : IntKind} {n : Int} {t : Ty} (ho : o.op = .convert S T x) (hx : s.op x = .int k n) (hk : E.ik T = some k') (hS : E.ty S = some t) : OpOK P c o s b ⟨.int k' (k'.wrap n), [], []⟩ := by
  refine OpOK.pure fun s' a w μ Nm hag hr => ?_
  have h1 := hr.op x
  rw [hag.ops x (by simp [Op.operands, ho]), hx] at h1
  simp only [VRel] at h1
  have hu := hE.ik T k' hk
  obtain ⟨d, hd, _⟩ := (hE.ty S t hS).und
  refine ⟨_, by simp only [execOp, ho]; exact run_v (by rw [h1]; simp [convert, run_underlying hu, run_underlying hd, Conv.intToInt, Result.andThen]; rfl), by simp only [VRel]⟩

theorem nilCheck_ok {x : Operand} {n : Nat} (ho : o.op = .nilCheck x) (hx : (∃ n off, s.op x = .ptr n off) ∨ (∃ n z i off, s.op x = .elo n z i off) ∨ (∃ t y off, s.op x = .elr t y off) ∨ ∃ p c' j, s.op x = .dyn p c' j) : OpOK P c o s b ⟨s.op x, [], []⟩ := by
  refine OpOK.pure fun s' a w μ Nm hag hr => ?_
  have h1 := hr.op x
  rw [hag.ops x (by simp [Op.operands, ho])] at h1
  have h2 : ∃ ad, a.eval x = .pointer (some ad) := by
    rcases hx with ⟨n, off, h⟩ | ⟨n, z, i, off, h⟩ | ⟨t, y, off, h⟩ | ⟨p, c', j, h⟩
    · rw [h] at h1; simp only [VRel] at h1; obtain ⟨_, g, _, h3⟩ := h1; exact ⟨_, h3⟩
    · rw [h] at h1; simp only [VRel] at h1; obtain ⟨_, g, l, cp, _, _, _, h3⟩ := h1; exact ⟨_, h3⟩
    · rw [h] at h1; simp only [VRel] at h1; obtain ⟨ad, cs, h3, _⟩ := h1; exact ⟨_, h3⟩
    · rw [h] at h1; simp only [VRel] at h1
      have h1 := h1.2
      split at h1
      · obtain ⟨_, g, _, h3⟩ := h1; exact ⟨_, h3⟩
      · obtain ⟨_, g, l, cp, _, _, _, h3⟩ := h1; exact ⟨_, h3⟩
      · obtain ⟨ad, cs, h3, _⟩ := h1; exact ⟨_, h3⟩
      · exact h1.elim
  obtain ⟨ad, h2⟩ := h2
  exact ⟨a.eval x, by simp [execOp, ho, h2], h1⟩
end
end Go.Proofs.Ytinopkpnlibopaa.Ab
