import Derived.Test.YtinopkpnlibopaaAbOps7
/- Lengths, least and greatest, closures, calls. -/
set_option linter.unusedVariables false
set_option linter.unusedSimpArgs false
namespace Go.Proofs.Ytinopkpnlibopaa.Ab
open Go.RowKit

section
variable {P : Program} {E : Env} {c : Ctx} {o : Oper} {s : St} {b : Nat} {R : Type} {κ : Eff → Option R} {r : R}

theorem exec_builtin {ρ : Operand → Value} {bi : Builtin} {cl : Call} (ho : o.op = .call cl) (hc : cl.callee = .builtin bi) : execOp ρ o = builtin bi cl.argTypes o.type (cl.args.map fun | .const _ => true | _ => false) (cl.args.map ρ) := by
  simp only [execOp, ho, resolve, hc, pure_bind]
  rfl

theorem len_str_ok (hE : EnvOK P E) {T : TypeId} {ts : List TypeId} {x : ByteArray} {cl : Call} (ho : o.op = .call cl) (hc : cl.callee = .builtin .len) (hts : cl.argTypes.toList = T :: ts) (hT : E.ty T = some .str) (hA : E.agg T = false) {y : Operand} (hy : cl.args.toList = [y]) (hx : s.op y = .str x) : OpOK P c o s b ⟨.int .i64 x.size, [], []⟩ := by
  refine OpOK.pure fun s' a w μ Nm hag hr => ?_
  have h1 := hr.op y
  rw [hag.ops y (by simp [Op.operands, ho, Call.operands, hc, hy]), hx] at h1
  simp only [VRel] at h1
  have hu := (hE.ty T _ hT).desc hA
  simp only [descOf] at hu
  have e1 : cl.argTypes[0]? = some T := by rw [← Array.getElem?_toList, hts]; rfl
  have e2 : (cl.args.map a.eval)[0]? = some (.string x) := by rw [← Array.getElem?_toList, Array.toList_map, hy]; simp [h1]
  have e3 : (Builtin.len_ cl.argTypes o.type (cl.args.map a.eval)).run P w = .ok (.int .i64 x.size) w := by
    simp [Builtin.len_, e1, e2, run_underlying hu, Sem.run_bind, Result.andThen, goInt]
  exact ⟨_, by rw [exec_builtin ho hc]; exact run_v e3, by simp only [VRel]⟩

theorem len_row_ok (hE : EnvOK P E) {T e : TypeId} {t : Ty} {ts : List TypeId} {xs : List t.D} {ns : List Nat} {cl : Call} (ho : o.op = .call cl) (hc : cl.callee = .builtin .len) (hts : cl.argTypes.toList = T :: ts) (hT : E.elem T = some e) (ht : E.ty e = some t) {y : Operand} (hy : cl.args.toList = [y]) (hx : rowOf s.mem e t (s.op y) = some (xs, ns)) : OpOK P c o s b ⟨.int .i64 xs.length, [], ns⟩ := by
  refine OpOK.pure fun s' a w μ Nm hag hr => ?_
  have h1 := hr.op y
  have h2 := rowOf_agree hag hx (fun n hn => hn)
  rw [hag.ops y (by simp [Op.operands, ho, Call.operands, hc, hy])] at h1
  obtain ⟨A, cp, hv, _, _⟩ := rowOf_rel hr.objs h2 h1
  have hu := hE.elem T e hT
  have e1 : cl.argTypes[0]? = some T := by rw [← Array.getElem?_toList, hts]; rfl
  have e2 : (cl.args.map a.eval)[0]? = some (.slice A xs.length cp) := by rw [← Array.getElem?_toList, Array.toList_map, hy]; simp [hv]
  have e3 : (Builtin.len_ cl.argTypes o.type (cl.args.map a.eval)).run P w = .ok (.int .i64 xs.length) w := by
    simp [Builtin.len_, e1, e2, run_underlying hu, Sem.run_bind, Result.andThen, goInt]
  exact ⟨_, by rw [exec_builtin ho hc]; exact run_v e3, by simp only [VRel]⟩

theorem cap_nil_ok (hE : EnvOK P E) {T e : TypeId} {ts : List TypeId} {cl : Call} (ho : o.op = .call cl) (hc : cl.callee = .builtin .cap) (hts : cl.argTypes.toList = T :: ts) (hT : E.elem T = some e) {y : Operand} (hy : cl.args.toList = [y]) (hx : s.op y = .nil) : OpOK P c o s b ⟨.int .i64 0, [], []⟩ := by
  refine OpOK.pure fun s' a w μ Nm hag hr => ?_
  have h1 := hr.op y
  rw [hag.ops y (by simp [Op.operands, ho, Call.operands, hc, hy]), hx] at h1
  simp only [VRel] at h1
  have hu := hE.elem T e hT
  have e1 : cl.argTypes[0]? = some T := by rw [← Array.getElem?_toList, hts]; rfl
  have e2 : (cl.args.map a.eval)[0]? = some (.slice none 0 0) := by rw [← Array.getElem?_toList, Array.toList_map, hy]; simp [h1]
  have e3 : (Builtin.cap_ cl.argTypes o.type (cl.args.map a.eval)).run P w = .ok (.int .i64 0) w := by
    simp [Builtin.cap_, e1, e2, run_underlying hu, Sem.run_bind, Result.andThen, goInt]
  exact ⟨_, by rw [exec_builtin ho hc]; exact run_v e3, by simp only [VRel]⟩

theorem min_rel {μ : Nat → Value} {Nm S : Nat → Prop} {w : World} : ∀ (l : List AV) (x v : AV) (y : Value) (ys : List Value), minA false x l = some v → VRel μ Nm S w x y → VRels μ Nm S w l ys → ∃ z, (ys.foldlM Builtin.min2 y : Sem Value).run P w = .ok z w ∧ VRel μ Nm S w v z
  | [], x, v, y, ys, h, hx, hl => by
    cases ys with
    | nil => simp only [minA] at h; injection h with h; subst h; exact ⟨y, rfl, hx⟩
    | cons _ _ => simp only [VRels] at hl
  | x2 :: l, x, v, y, ys, h, hx, hl => by
    cases ys with
    | nil => simp only [VRels] at hl
    | cons y2 ys =>
      simp only [VRels] at hl
      cases x <;> try (cases x2 <;> cases h; done)
      cases x2 <;> try (cases h; done)
      rename_i k n k' n'
      simp only [minA] at h
      split at h
      · rename_i hk
        have hl1 := hl.1
        simp only [VRel] at hx hl1
        subst hx; subst hl1
        have := ikEq_eq hk; subst this
        obtain ⟨z, h1, h2⟩ := min_rel l _ v (.int k (if n' < n then n' else n)) ys h (by simp only [VRel]) hl.2
        refine ⟨z, ?_, h2⟩
        simp only [List.foldlM_cons, Builtin.min2, pure_bind]
        exact h1
      · cases h

theorem max_rel {μ : Nat → Value} {Nm S : Nat → Prop} {w : World} : ∀ (l : List AV) (x v : AV) (y : Value) (ys : List Value), minA true x l = some v → VRel μ Nm S w x y → VRels μ Nm S w l ys → ∃ z, (ys.foldlM Builtin.max2 y : Sem Value).run P w = .ok z w ∧ VRel μ Nm S w v z
  | [], x, v, y, ys, h, hx, hl => by
    cases ys with
    | nil => simp only [minA] at h; injection h with h; subst h; exact ⟨y, rfl, hx⟩
    | cons _ _ => simp only [VRels] at hl
  | x2 :: l, x, v, y, ys, h, hx, hl => by
    cases ys with
    | nil => simp only [VRels] at hl
    | cons y2 ys =>
      simp only [VRels] at hl
      cases x <;> try (cases x2 <;> cases h; done)
      cases x2 <;> try (cases h; done)
      rename_i k n k' n'
      simp only [minA] at h
      split at h
      · rename_i hk
        have hl1 := hl.1
        simp only [VRel] at hx hl1
        subst hx; subst hl1
        have := ikEq_eq hk; subst this
        have e1 : (if n < n' then n' else n) = (if n' > n then n' else n) := rfl
        obtain ⟨z, h1, h2⟩ := max_rel l _ v (.int k (if n < n' then n' else n)) ys h (by simp only [VRel]) hl.2
        refine ⟨z, ?_, h2⟩
        simp only [List.foldlM_cons, Builtin.max2, pure_bind]
        exact h1
      · cases h

theorem ops_agree {s' : St} : ∀ {l : List Operand}, (∀ x ∈ l, s'.op x = s.op x) → mapOp s' l = mapOp s l
  | [], _ => rfl
  | x :: l, h => by simp only [mapOp]; rw [h x List.mem_cons_self, ops_agree (fun y hy => h y (List.mem_cons_of_mem _ hy))]

theorem minmax_ok {mx : Bool} {cl : Call} {x v : AV} {l : List AV} (ho : o.op = .call cl) (hc : cl.callee = .builtin (match mx with | true => .max | false => .min)) (hargs : mapOp s cl.args.toList = x :: l) (h : minA mx x l = some v) : OpOK P c o s b ⟨v, [], []⟩ := by
  refine OpOK.pure fun s' a w μ Nm hag hr => ?_
  have h1 := hr.ops cl.args.toList
  rw [ops_agree (s := s) (fun y hy => hag.ops y (by cases mx <;> simp [Op.operands, ho, Call.operands, hc] <;> simpa using hy)), hargs] at h1
  have h2 : (cl.args.map a.eval).toList = cl.args.toList.map a.eval := Array.toList_map
  rw [← h2] at h1
  cases hl : (cl.args.map a.eval).toList with
  | nil => rw [hl] at h1; simp only [VRels] at h1
  | cons y ys =>
    rw [hl] at h1
    simp only [VRels] at h1
    cases mx with
    | false =>
      obtain ⟨z, h3, h4⟩ := min_rel (P := P) l x v y ys h h1.1 h1.2
      exact ⟨z, by rw [exec_builtin ho hc]; exact run_v (by simp only [Builtin.min_, hl]; exact h3), h4⟩
    | true =>
      obtain ⟨z, h3, h4⟩ := max_rel (P := P) l x v y ys h h1.1 h1.2
      exact ⟨z, by rw [exec_builtin ho hc]; exact run_v (by simp only [Builtin.max_, hl]; exact h3), h4⟩

theorem makeFunc_ok {g : FuncId} {first caps : Array Operand} (ho : o.op = .makeFunc (.func g) first caps) (hf : first.toList = []) : OpOK P c o s b ⟨.clo g (mapOp s caps.toList), [], []⟩ := by
  refine OpOK.pure fun s' a w μ Nm hag hr => ?_
  have hf' : first = #[] := by cases first; simp at hf; subst hf; rfl
  have h1 := hr.ops caps.toList
  rw [ops_agree (s := s) (fun y hy => hag.ops y (by simp [Op.operands, ho, hf']; simpa using hy))] at h1
  refine ⟨.func (.func g) #[] (caps.map a.eval), by simp only [execOp, ho, hf']; exact run_v (by simp [Instr.makeFunc]), ?_⟩
  simp only [VRel]
  exact ⟨caps.map a.eval, rfl, by rw [Array.toList_map]; exact h1⟩

/-! Arguments. -/
theorem VRels_nil {μ : Nat → Value} {Nm S : Nat → Prop} {w : World} {vs : List Value} (h : VRels μ Nm S w [] vs) : vs = [] := by
  cases vs with
  | nil => rfl
  | cons _ _ => simp only [VRels] at h

theorem packA_rel {m : Nat → Option Obj} {μ : Nat → Value} {Nm S : Nat → Prop} {w : World} (hm : ∀ n o, m n = some o → ORel c μ Nm S w n o) {v : VT} {x : AV} {d : v.t.D} {ns : List Nat} {y : Value} (h : packA m v x = some (d, ns)) (hx : VRel μ Nm S w x y) : VRel (fun _ => undef) (fun _ => False) (withB μ m S ns) w (wrapA v.agg (unpack v.t d)) y := by
  unfold packA at h
  split at h
  · rename_i cs hA
    split at h
    · rename_i d' ns' hp
      injection h with h; injection h with h1 h2; subst h1; subst h2
      simp only [VRel] at hx
      obtain ⟨vs, rfl, hv⟩ := hx
      obtain ⟨v0, v1, he, hf, hr⟩ := pack_rel hm _ _ _ _ _ _ hp hv
      have := VRels_nil hr; subst this
      rw [List.append_nil] at he
      rw [hA]
      simp only [wrapA, VRel]
      exact ⟨vs, rfl, by rw [he]; exact unpack_rel _ _ _ hf⟩
    · cases h
  · cases h
  · rename_i hA
    split at h
    · rename_i d' ns' hp
      injection h with h; injection h with h1 h2; subst h1; subst h2
      obtain ⟨v0, v1, he, hf, hr⟩ := pack_rel hm _ _ _ _ _ [y] hp (by simp only [VRels, and_true]; exact hx)
      have := VRels_nil hr; subst this
      rw [List.append_nil] at he
      rw [hA]
      simp only [wrapA]
      have h3 := VRels_get (unpack_rel (μ := fun _ => undef) (Nm := fun _ => False) _ _ _ hf) 0
      rw [← he] at h3
      simpa using h3
    · cases h

theorem packA_mem {m : Nat → Option Obj} {v : VT} {x : AV} {d : v.t.D} {ns : List Nat} (h : packA m v x = some (d, ns)) : ∀ n ∈ ns, ∃ f e' t' ys, m n = some (.row f e' t' ys) := by
  unfold packA at h
  split at h
  · split at h
    · rename_i hp
      injection h with h; injection h with h1 h2; subst h1; subst h2
      exact pack_mem _ _ _ _ _ hp
    · cases h
  · cases h
  · split at h
    · rename_i hp
      injection h with h; injection h with h1 h2; subst h1; subst h2
      exact pack_mem _ _ _ _ _ hp
    · cases h

theorem packA_congr {m m' : Nat → Option Obj} {v : VT} {x : AV} {d : v.t.D} {ns : List Nat} (h : packA m v x = some (d, ns)) (hm : ∀ n ∈ ns, m' n = m n) : packA m' v x = some (d, ns) := by
  unfold packA at h ⊢
  split at h
  · split at h
    · rename_i hp
      injection h with h; injection h with h1 h2; subst h1; subst h2
      rw [pack_congr _ _ _ _ _ hp hm]
    · cases h
  · cases h
  · split at h
    · rename_i hp
      injection h with h; injection h with h1 h2; subst h1; subst h2
      rw [pack_congr _ _ _ _ _ hp hm]
    · cases h

theorem add_at (g off j : Nat) : (⟨g, off, none⟩ : Addr).add j = (⟨g, 0, none⟩ : Addr).add (off + j) := by
  unfold Addr.add
  by_cases h : j = 0
  · by_cases h' : off = 0
    · simp [h, h']
    · simp [h, h']
  · simp [h]

theorem castT_eq {t t' : Ty} {x : t.D} {y : t'.D} (h : castT t t' x = some y) : ∃ e : t = t', y = e ▸ x := by
  unfold castT at h
  split at h
  · rename_i hb; injection h with h; exact ⟨Ty.beq_eq hb, h.symm⟩
  · cases h

mutual
theorem packP_rel {m : Nat → Option Obj} {μ μ' : Nat → Value} {Nm Nm' S : Nat → Prop} {w : World} (hm : ∀ n o, m n = some o → ORel c μ Nm S w n o) : ∀ (p : PV) (v : AV) (y : Value) (d : p.D) (ns : List Nat) (b : Nat), packP m p v = some (d, ns) → VRel μ Nm S w v y →
    VRel μ' Nm' (withB μ m S ns) w (lay p d b).1 y ∧ (lay p d b).2.1 = [] ∧ (lay p d b).2.2 = b
  | .cell t, v, y, d, ns, b, h, hv => by
    simp only [packP] at h
    split at h
    · rename_i d' ns' hp
      injection h with h; injection h with h1 h2; subst h1; subst h2
      obtain ⟨v0, v1, he, hf, hr⟩ := pack_rel hm _ _ _ _ _ [y] hp (by simp only [VRels, and_true]; exact hv)
      have := VRels_nil hr; subst this
      rw [List.append_nil] at he
      have h3 := VRels_get (unpack_rel (μ := μ') (Nm := Nm') _ _ _ hf) 0
      rw [← he] at h3
      exact ⟨by simpa [lay] using h3, rfl, rfl⟩
    · cases h
  | .ref t, v, y, d, ns, b, h, hv => by
    cases v <;> simp only [packP] at h <;> try (cases h; done)
    · rename_i n off
      split at h
      · rename_i U cs hmn
        split at h
        · rename_i hlen
          split at h
          · rename_i d' ns' hp
            injection h with h; injection h with h1 h2; subst h1; subst h2
            simp only [VRel] at hv
            obtain ⟨_, g, e1, e2⟩ := hv
            have ho := hm n _ hmn
            simp only [ORel] at ho
            obtain ⟨g', vs, e3, _, e5, e6⟩ := ho
            rw [e1] at e3
            injection e3 with e3; injection e3 with e3; injection e3 with e3
            subst e3
            have hlen := Nat.eq_of_beq_eq_true hlen
            rw [takeA_eq, dropA_eq] at hp hlen
            rw [lenA_eq] at hlen
            obtain ⟨v0, v1, he, hf, hr⟩ := pack_rel hm _ _ _ _ _ _ hp (VRels_take t.sz (VRels_drop off e6))
            have := VRels_nil hr; subst this
            rw [List.append_nil] at he
            refine ⟨?_, rfl, rfl⟩
            simp only [lay, VRel]
            refine ⟨⟨g, off, none⟩, v0, by rw [e2]; simp [Addr.add], Kd.FK_mono hf (fun k hk => ?_), fun j u hu => ?_, fun _ => ?_⟩
            · rcases hk with hk | ⟨n', h1, h2, h3⟩
              · exact .inl hk
              · exact .inr ⟨n', List.mem_cons_of_mem _ h1, h2, h3⟩
            · rw [← he] at hu
              rw [List.getElem?_take] at hu
              split at hu
              · rw [List.getElem?_drop] at hu
                have := box_cells e5 (off + j) u hu
                rw [add_at]; exact this
              · cases hu
            · exact .inr ⟨n, List.mem_cons_self, by simp [liveN, hmn], by rw [e1]; rfl⟩
          · cases h
        · cases h
      · cases h
    · rename_i t' x off
      cases off with
      | succ _ => cases h
      | zero =>
        simp only at h
        cases hc : castT t' t x with
        | none => rw [hc] at h; cases h
        | some y' =>
          rw [hc] at h
          injection h with h; injection h with h1 h2; subst h1; subst h2
          obtain ⟨e, hy⟩ := castT_eq hc
          subst e; subst hy
          refine ⟨?_, rfl, rfl⟩
          simp only [lay, VRel] at hv ⊢
          obtain ⟨ad, cs, h1, h2, h3, h4⟩ := hv
          exact ⟨ad, cs, h1, Kd.FK_mono h2 (fun k hk => .inl hk), h3, fun h => .inl (h4 h)⟩
  | .agg cs, v, y, d, ns, b, h, hv => by
    cases v <;> simp only [packP] at h <;> try (cases h; done)
    simp only [VRel] at hv
    obtain ⟨vs, rfl, hvs⟩ := hv
    obtain ⟨g1, g2, g3⟩ := packPs_rel (μ' := μ') (Nm' := Nm') hm cs _ _ d ns b h hvs
    simp only [lay]
    exact ⟨by simp only [VRel]; exact ⟨vs, rfl, g1⟩, g2, g3⟩
  | .clo g cs, v, y, d, ns, b, h, hv => by
    cases v <;> simp only [packP] at h <;> try (cases h; done)
    split at h
    · rename_i hg
      have := Nat.eq_of_beq_eq_true hg; subst this
      simp only [VRel] at hv
      obtain ⟨vs, rfl, hvs⟩ := hv
      obtain ⟨g1, g2, g3⟩ := packPs_rel (μ' := μ') (Nm' := Nm') hm cs _ _ d ns b h hvs
      simp only [lay]
      exact ⟨by simp only [VRel]; exact ⟨vs, rfl, g1⟩, g2, g3⟩
    · cases h
  | .own _ _, v, y, d, ns, b, h, hv => by simp [packP] at h
  | .box _ _, v, y, d, ns, b, h, hv => by simp [packP] at h
  | .nil, v, y, d, ns, b, h, hv => by
    cases v <;> simp only [packP] at h <;> try (cases h; done)
    simp only [VRel] at hv
    exact ⟨by simp only [lay, VRel]; exact hv, rfl, rfl⟩
  | .pin _ _, v, y, d, ns, b, h, hv => by simp [packP] at h
  | .mp _ _ _ _ _, v, y, d, ns, b, h, hv => by simp [packP] at h
theorem packPs_rel {m : Nat → Option Obj} {μ μ' : Nat → Value} {Nm Nm' S : Nat → Prop} {w : World} (hm : ∀ n o, m n = some o → ORel c μ Nm S w n o) : ∀ (ps : List PV) (vs : List AV) (ys : List Value) (d : PVs ps) (ns : List Nat) (b : Nat), packPs m ps vs = some (d, ns) → VRels μ Nm S w vs ys →
    VRels μ' Nm' (withB μ m S ns) w (lays ps d b).1 ys ∧ (lays ps d b).2.1 = [] ∧ (lays ps d b).2.2 = b
  | [], vs, ys, d, ns, b, h, hv => by
    cases vs with
    | nil =>
      have := VRels_nil hv; subst this
      exact ⟨by simp only [lays, VRels], rfl, rfl⟩
    | cons _ _ => simp [packPs] at h
  | p :: ps, vs, ys, d, ns, b, h, hv => by
    cases vs with
    | nil => simp [packPs] at h
    | cons v vs =>
      cases ys with
      | nil => simp only [VRels] at hv
      | cons y ys =>
        simp only [VRels] at hv
        simp only [packPs] at h
        split at h
        · rename_i d1 ns1 h1
          split at h
          · rename_i d2 ns2 h2
            injection h with h; injection h with e1 e2; subst e1; subst e2
            obtain ⟨g1, g2, g3⟩ := packP_rel (μ' := μ') (Nm' := Nm') hm p v y d1 ns1 b h1 hv.1
            obtain ⟨k1, k2, k3⟩ := packPs_rel (μ' := μ') (Nm' := Nm') hm ps vs ys d2 ns2 b h2 hv.2
            simp only [lays]
            rw [g3, g2, k2, k3]
            refine ⟨?_, rfl, rfl⟩
            simp only [VRels]
            exact ⟨VRel_step (fun _ _ _ => rfl) (fun k h _ => withB_left h) (fun _ _ => rfl) (fun _ h => h) _ _ g1, VRels_step (fun _ _ _ => rfl) (fun k h _ => withB_right h) (fun _ _ => rfl) (fun _ h => h) _ _ k1⟩
          · cases h
        · cases h
end

mutual
theorem packP_mem {m : Nat → Option Obj} : ∀ (p : PV) (v : AV) (d : p.D) (ns : List Nat), packP m p v = some (d, ns) → ∀ n ∈ ns, ∃ o, m n = some o
  | .cell t, v, d, ns, h => by
    simp only [packP] at h
    split at h
    · rename_i d' ns' hp
      injection h with h; injection h with h1 h2; subst h2
      intro n hn
      obtain ⟨_, _, _, _, h⟩ := pack_mem _ _ _ _ _ hp n hn
      exact ⟨_, h⟩
    · cases h
  | .ref t, v, d, ns, h => by
    cases v <;> simp only [packP] at h <;> try (cases h; done)
    · rename_i n off
      split at h
      · rename_i U cs hmn
        split at h
        · split at h
          · rename_i d' ns' hp
            injection h with h; injection h with h1 h2; subst h2
            intro n' hn'
            rcases List.mem_cons.1 hn' with rfl | hn'
            · exact ⟨_, hmn⟩
            · obtain ⟨_, _, _, _, h⟩ := pack_mem _ _ _ _ _ hp n' hn'
              exact ⟨_, h⟩
          · cases h
        · cases h
      · cases h
    · rename_i t' x off
      cases off with
      | succ _ => cases h
      | zero =>
        simp only at h
        cases hc : castT t' t x with
        | none => rw [hc] at h; cases h
        | some y' => rw [hc] at h; injection h with h; injection h with h1 h2; subst h2; intro n hn; cases hn
  | .agg cs, v, d, ns, h => by
    cases v <;> simp only [packP] at h <;> try (cases h; done)
    exact packPs_mem cs _ d ns h
  | .clo g cs, v, d, ns, h => by
    cases v <;> simp only [packP] at h <;> try (cases h; done)
    split at h
    · exact packPs_mem cs _ d ns h
    · cases h
  | .own _ _, v, d, ns, h => by simp [packP] at h
  | .box _ _, v, d, ns, h => by simp [packP] at h
  | .nil, v, d, ns, h => by
    cases v <;> simp only [packP] at h <;> try (cases h; done)
    injection h with h; injection h with _ h; subst h; intro n hn; cases hn
  | .pin _ _, v, d, ns, h => by simp [packP] at h
  | .mp _ _ _ _ _, v, d, ns, h => by simp [packP] at h
theorem packPs_mem {m : Nat → Option Obj} : ∀ (ps : List PV) (vs : List AV) (d : PVs ps) (ns : List Nat), packPs m ps vs = some (d, ns) → ∀ n ∈ ns, ∃ o, m n = some o
  | [], vs, d, ns, h => by
    cases vs with
    | nil => simp only [packPs] at h; injection h with h; injection h with _ h; subst h; intro n hn; cases hn
    | cons _ _ => simp [packPs] at h
  | p :: ps, vs, d, ns, h => by
    cases vs with
    | nil => simp [packPs] at h
    | cons v vs =>
      simp only [packPs] at h
      split at h
      · rename_i d1 ns1 h1
        split at h
        · rename_i d2 ns2 h2
          injection h with h; injection h with e1 e2; subst e1; subst e2
          intro n hn
          rcases List.mem_append.1 hn with hn | hn
          · exact packP_mem p v d1 ns1 h1 n hn
          · exact packPs_mem ps vs d2 ns2 h2 n hn
        · cases h
      · cases h
end
end
end Go.Proofs.Ytinopkpnlibopaa.Ab
