import Derived.Test.YtinopkpnlibopaaAbOps4
/- Appends, cuts, stores. -/
set_option linter.unusedVariables false
set_option linter.unusedSimpArgs false
namespace Go.Proofs.Ytinopkpnlibopaa.Ab
open Go.RowKit

section
variable {P : Program} {E : Env} {c : Ctx} {o : Oper} {s : St} {b : Nat} {R : Type} {κ : Eff → Option R} {r : R}

theorem memN_iff (n : Nat) : ∀ l : List Nat, memN n l = true ↔ n ∈ l
  | [] => by simp [memN]
  | m :: r => by
    simp only [memN, Bool.or_eq_true, memN_iff n r, List.mem_cons]
    constructor
    · rintro (h | h)
      · exact .inl (Nat.eq_of_beq_eq_true h)
      · exact .inr h
    · rintro (h | h)
      · exact .inl (by rw [h]; exact Nat.beq_refl m)
      · exact .inr h
theorem disj_iff : ∀ {l l' : List Nat}, disj l l' = true → ∀ n ∈ l, n ∉ l'
  | [], _, _, n, hn, _ => by cases hn
  | m :: r, l', h, n, hn, hn' => by
    simp only [disj, Bool.and_eq_true, Bool.not_eq_true'] at h
    rcases List.mem_cons.1 hn with rfl | hn
    · have := (memN_iff n l').2 hn'; rw [this] at h; exact absurd h.1 (by simp)
    · exact disj_iff h.2 n hn hn'

theorem app_put (s : St) (d : Option Tmp) (v : AV) (us : List (Nat × Option Obj)) (nm : List Nat) : s.app d ⟨v, us, nm⟩ = { s.put d v with mem := updL s.mem us } := rfl

theorem put_mem (s : St) (d : Option Tmp) (v : AV) (m : Nat → Option Obj) : ({ s with mem := m } : St).put d v = { s.put d v with mem := m } := by cases d <;> rfl

theorem ownOf_agree {s' : St} {nm : List Nat} (hag : Agree o s s' nm) {e : TypeId} {t : Ty} {v : AV} {xs : List t.D} {ns : List Nat} (h : ownOf s.mem e t v = some (xs, ns)) (hn : ∀ n ∈ ns, n ∈ nm) : ownOf s'.mem e t v = some (xs, ns) := by
  cases v with
  | own n =>
    have h1 : ns = [n] := by
      simp only [ownOf] at h
      split at h
      · split at h
        · split at h
          · injection h with h; injection h with _ h2; exact h2.symm
          · cases h
        · cases h
      · cases h
    rw [← h]
    simp only [ownOf]
    rw [hag.mem n (hn n (by rw [h1]; simp))]
  | _ => exact h

/-- The blocks of live rows are none of another live row's. -/
theorem withB_ne {s : St} {a : Act} {w : World} {μ : Nat → Value} {Nm : Nat → Prop} (h : Rel c s a w μ Nm) {ns ns' : List Nat} {x : Value} (hx : (ns = [] ∧ x.ownBlock = none) ∨ ∃ n e t, ∃ xs : List t.D, ns = [n] ∧ x = μ n ∧ s.mem n = some (.row true e t xs)) (hd : ∀ n ∈ ns, n ∉ ns') {k : Nat} (hk : withB μ s.mem (stab c μ s.mem) ns' k) : some k ≠ x.ownBlock := by
  intro hx2
  rcases hx with ⟨_, h1⟩ | ⟨n, e, t, xs, h0, h1, h2⟩
  · rw [h1] at hx2; cases hx2
  · have hb : blk (μ n) = some k := by rw [← h1]; exact own_blk hx2.symm
    rcases hk with hk | ⟨n', hn', hl, hk⟩
    · exact (h.stab_lt h2 rfl hb).2.2 hk
    · have hne : n ≠ n' := fun e => hd n (by rw [h0]; simp) (e ▸ hn')
      unfold liveN at hl
      cases hm : s.mem n' with
      | none => rw [hm] at hl; cases hl
      | some ob =>
        rw [hm] at hl
        refine h.dist n n' _ ob h2 hm rfl ?_ hne k hb hk
        cases ob with
        | row f _ _ _ => exact hl
        | box _ _ => rfl
        | mp _ _ _ _ _ _ => rfl

theorem append_core (hE : EnvOK P E) {T e : TypeId} {t : Ty} {x y : Operand} {l l' : List t.D} {ns ns' : List Nat} {s' : St} {a : Act} {w : World} {μ : Nat → Value} {Nm : Nat → Prop} {next : Act → World → Prop} {Q : Exit → Act → World → Prop} {nm : List Nat}
    (ho : o.op = .call { callee := .builtin .append, args := #[x, y], argTypes := #[T, T] }) (hT : E.elem T = some e) (ht : E.ty e = some t)
    (hr : Rel c s' a w μ Nm) (hf : ∀ n, b ≤ n → n < b + 64 → ¬ Nm n) (hd : ∀ d, o.dst = some d → d < s'.n)
    (hx : ownOf s'.mem e t (s'.op x) = some (l, ns)) (hy : Kd.V t.kd e w 0 (withB μ s'.mem (stab c μ s'.mem) ns') (a.eval y) l') (hdis : ∀ n ∈ ns, n ∉ ns') (hlim : (l.length + l'.length) * E.byt e ≤ 140737488355328)
    (hflat : t.flat = true ∨ ∀ k, k < w.heap.size → withB μ s'.mem (stab c μ s'.mem) ns' k → stab c μ s'.mem k)
    (hn : ∀ a' w' μ' Nm', Rel c (s'.app o.dst ⟨.own b, delL ns ++ [(b, some (.row true e t (l ++ l')))], nm⟩) a' w' μ' Nm' → (∀ n, Nm' n → Nm n ∨ (b ≤ n ∧ n < b + 64)) → next a' w') : o.wp P a w next Q := by
  have h1 := hr.op x
  obtain ⟨hN, hxn⟩ := ownOf_rel hr.objs hx h1
  have hxn' : (ns = [] ∧ (a.eval x).ownBlock = none) ∨ ∃ n e t, ∃ xs : List t.D, ns = [n] ∧ a.eval x = μ n ∧ s'.mem n = some (.row true e t xs) := by
    rcases hxn with ⟨h1, h2, _⟩ | ⟨n, h1, h2, h3⟩
    · exact .inl ⟨h1, by rw [h2]; rfl⟩
    · exact .inr ⟨n, e, t, l, h1, h2, h3⟩
  have hTy := hE.ty e t ht
  obtain ⟨z, hi, hz, hc⟩ := infoOf hTy
  obtain ⟨A, cp, hyv, hyl, hyF⟩ := hy
  have hyF' := Kd.F_bound hyF
  refine Kd.N_append (base := 0) (okp := fun k => withB μ s'.mem (stab c μ s'.mem) ns' k ∧ k < w.heap.size) (ok := fun k => withB μ s'.mem (stab c μ s'.mem) ns' k ∧ k < w.heap.size ∨ w.heap.size ≤ k ∨ some k = (a.eval x).ownBlock) ho (hE.elem T e hT) hi hz (by rw [kd_sz]; exact hTy.pos) hTy.byt hyv
    (Kd.N_mono (Kd.N_bound hN.1) (fun k hk => ?_)) hyF' (fun k hk => ⟨.inl hk, withB_ne hr hxn' hdis hk.1⟩) (fun k hk => .inr (.inl hk)) (Nat.zero_le _) hlim (fun v1 w1 hN1 hg hat => ?_)
  · rcases hk.1 with h2 | h2
    · exact .inl ⟨.inl h2, hk.2⟩
    · exact .inr (.inr h2)
  · obtain ⟨μ', Nm', g1, g2, g3, g4⟩ := hr.turn (b := b) hxn' hg hat (hf b (Nat.le_refl _) (by omega)) (v := v1) (e := e) (t := t) (xs := l ++ l') (by
      rcases hflat with hfl | hfl
      · exact N_flat hfl hN1 (fun k hk => .inr (.inr (.inl hk.symm)))
      · refine Kd.N_mono hN1 (fun k hk => ?_)
        rcases hk with hk | hk | hk
        · exact .inl ⟨hfl k hk.2 hk.1, hk.2⟩
        · exact .inr (.inl hk)
        · exact .inr (.inr (.inr hk)))
    have g5 := g1.put o.dst hd (v := .own b) (x := v1) (by simp only [VRel]; exact ⟨g2, g3.symm, (Kd.N_val hN1).2⟩)
    refine hn _ _ μ' Nm' ?_ (fun n h => (g4 n h).imp id (fun e => by omega))
    rw [app_put, updL_append]
    rw [put_mem] at g5
    exact g5

theorem append_flat_ok (hE : EnvOK P E) {T e : TypeId} {t : Ty} {x y : Operand} {l l' : List t.D} {ns ns' : List Nat}
    (ho : o.op = .call { callee := .builtin .append, args := #[x, y], argTypes := #[T, T] }) (hT : E.elem T = some e) (ht : E.ty e = some t)
    (hx : ownOf s.mem e t (s.op x) = some (l, ns)) (hy : rowOf s.mem e t (s.op y) = some (l', ns')) (hdis : disj ns ns' = true) (hlim : (l.length + l'.length) * E.byt e ≤ 140737488355328) (hflat : t.flat = true) :
    OpOK P c o s b ⟨.own b, delL ns ++ [(b, some (.row true e t (l ++ l')))], b :: ns ++ ns'⟩ := by
  intro s' a w μ Nm next Q hag hr hf hd hn
  have ox := hag.ops x (by simp [Op.operands, ho, Call.operands])
  have oy := hag.ops y (by simp [Op.operands, ho, Call.operands])
  have hx' := ownOf_agree hag hx (fun n hn => by simp [hn])
  have hy' := rowOf_agree hag hy (fun n hn => by simp [hn])
  rw [← ox] at hx'
  rw [← oy] at hy'
  exact append_core hE ho hT ht hr hf hd hx' (rowOf_rel hr.objs hy' (hr.op y)) (disj_iff hdis) hlim (.inl hflat) hn

theorem stab_app {s : St} {d : Option Tmp} {v : AV} : (s.put d v).mem = s.mem := by cases d <;> rfl

theorem append_deep_ok (hE : EnvOK P E) {T e : TypeId} {t : Ty} {x y : Operand} {l l' : List t.D} {ns ns' : List Nat}
    (ho : o.op = .call { callee := .builtin .append, args := #[x, y], argTypes := #[T, T] }) (hT : E.elem T = some e) (ht : E.ty e = some t)
    (hx : ownOf s.mem e t (s.op x) = some (l, ns)) (hy : rowOf s.mem e t (s.op y) = some (l', ns')) (hdis : disj ns ns' = true) (hlim : (l.length + l'.length) * E.byt e ≤ 140737488355328) :
    OpOK P c o s b ⟨.own b, frz s.mem ns' ++ (delL ns ++ [(b, some (.row true e t (l ++ l')))]), b :: ns ++ ns'⟩ := by
  intro s' a w μ Nm next Q hag hr hf hd hn
  have ox := hag.ops x (by simp [Op.operands, ho, Call.operands])
  have oy := hag.ops y (by simp [Op.operands, ho, Call.operands])
  have hx' := ownOf_agree hag hx (fun n hn => by simp [hn])
  have hy' := rowOf_agree hag hy (fun n hn => by simp [hn])
  rw [← ox] at hx'
  rw [← oy] at hy'
  have hV := rowOf_rel hr.objs hy' (hr.op y)
  rw [frz_agree hag (ns := ns') (fun n hn => by simp [hn])] at hn
  obtain ⟨g1, g2, g3, g4, g5⟩ := Rel.frzL ns' (Froz.refl s'.mem) hr
  have hS : ∀ k, withB μ s'.mem (stab c μ s'.mem) ns' k → stab c μ (updL s'.mem (frz s'.mem ns')) k := by
    intro k hk
    rcases hk with hk | ⟨n, hn', hl, hk⟩
    · exact g2 k hk
    · obtain ⟨f, e', t', ys, hm⟩ := rowOf_mem hy' n hn'
      exact g3 n hn' ⟨f, e', t', ys, hm⟩ hl k hk
  refine append_core (s' := { s' with mem := updL s'.mem (frz s'.mem ns') }) (ns := ns) (ns' := []) (nm := b :: ns ++ ns') hE ho hT ht g1 hf hd ?_ (Kd.V_mono hV (fun k hk => .inl (hS k hk))) (by simp) hlim (.inr (fun k _ hk => withB_nil hk)) (fun a' w' μ' Nm' h1 h2 => hn a' w' μ' Nm' ?_ h2)
  · have : ({ s' with mem := updL s'.mem (frz s'.mem ns') } : St).op x = s'.op x := by cases x <;> rfl
    rw [this, ← hx']
    cases hv : s'.op x with
    | own n =>
      have h1 : ns = [n] := by
        rw [hv] at hx'
        simp only [ownOf] at hx'
        split at hx'
        · split at hx'
          · split at hx'
            · injection hx' with h; injection h with _ h2; exact h2.symm
            · cases hx'
          · cases hx'
        · cases hx'
      simp only [ownOf]
      rw [g5 n (disj_iff hdis n (by rw [h1]; simp))]
    | _ => rfl
  · rw [app_put] at h1 ⊢
    rw [put_mem] at h1
    rw [updL_append]
    exact h1

/-- 'append(s, make(..)...)'. -/
theorem append_zeros_ok (hE : EnvOK P E) {T T' e : TypeId} {t : Ty} {x y : Operand} {k ky : IntKind} {n : Int}
    (ho : o.op = .call { callee := .builtin .append, args := #[x, y], argTypes := #[T, T'] }) (hT : E.elem T = some e) (hT' : E.ik T' = some k) (ht : E.ty e = some t)
    (hx : s.op x = .nil) (hy : s.op y = .int ky n) (h0 : 0 ≤ n) (hlim : (0 + n.toNat) * E.byt e ≤ 140737488355328) :
    OpOK P c o s b ⟨.own b, [(b, some (.row true e t (List.replicate n.toNat t.z)))], [b]⟩ := by
  intro s' a w μ Nm next Q hag hr hf hd hn
  have h1 := hr.op x
  have hyv := hr.op y
  rw [hag.ops x (by simp [Op.operands, ho, Call.operands]), hx] at h1
  rw [hag.ops y (by simp [Op.operands, ho, Call.operands]), hy] at hyv
  simp only [VRel] at h1 hyv
  have hTy := hE.ty e t ht
  obtain ⟨z, hi, hz, hc⟩ := infoOf hTy
  exact Kd.N_zeros (base := 0) (ok := fun k => (stab c μ s'.mem k ∧ k < w.heap.size) ∨ w.heap.size ≤ k) ho (hE.elem T e hT) (hE.ik T' k hT') hi hz (by rw [kd_sz]; exact hTy.pos) hTy.byt h1 hyv (z0 := t.z) (by rw [hc]; exact zero_FK t) (fun k hk => .inr hk) h0 (Nat.zero_le _) (by rwa [Nat.zero_add] at hlim) (fun v1 w1 hN hg hat => new_row hr hf hd hN hg hat hn)

theorem sliceBound_run {w : World} {k : IntKind} {i : Int} {y : Nat} {cd : BoundsCode} (h0 : 0 ≤ i) (h1 : i ≤ (y : Int)) : (Instr.sliceBound (.int k i) y cd).run P w = .ok i.toNat w := by
  simp [Instr.sliceBound, asIntOf, h0, h1, Result.andThen]

theorem sliceAt_run (hE : EnvOK P E) {T e : TypeId} {t : Ty} (hT : E.elem T = some e) (ht : E.ty e = some t) {w : World} {A : Option Addr} {len cap : Nat} {lo hi : Option Value} {l h : Int}
    (hlo : (lo = none ∧ l = 0) ∨ ∃ k, lo = some (.int k l)) (hhi : (hi = none ∧ h = (len : Int)) ∨ ∃ k, hi = some (.int k h)) (h0 : 0 ≤ l) (h1 : l ≤ h) (h2 : h ≤ (len : Int)) (hc : len ≤ cap) :
    (Instr.sliceAt T (.slice A len cap) lo hi none).run P w = .ok (.slice (if cap = l.toNat then A else A.map (·.add (l.toNat * t.sz))) (h.toNat - l.toNat) (cap - l.toNat)) w := by
  have hs := run_sizeOf' (hE.ty e t ht) w
  have b1 : ∀ k cd, (Instr.sliceBound (.int k h) cap cd).run P w = .ok h.toNat w := fun k cd => sliceBound_run (by omega) (by omega)
  have b2 : ∀ k cd, (Instr.sliceBound (.int k l) h.toNat cd).run P w = .ok l.toNat w := fun k cd => sliceBound_run h0 (by omega)
  rcases hlo with ⟨rfl, rfl⟩ | ⟨k, rfl⟩ <;> rcases hhi with ⟨rfl, rfl⟩ | ⟨k', rfl⟩
  · simp [Instr.sliceAt, Instr.slice, Instr.sliceBounds, run_underlying (hE.elem T e hT), hs, Result.andThen]
  · simp [Instr.sliceAt, Instr.slice, Instr.sliceBounds, run_underlying (hE.elem T e hT), hs, Result.andThen, b1]
  · have b3 : ∀ cd, (Instr.sliceBound (.int k l) len cd).run P w = .ok l.toNat w := fun cd => sliceBound_run h0 (by omega)
    simp [Instr.sliceAt, Instr.slice, Instr.sliceBounds, run_underlying (hE.elem T e hT), hs, Result.andThen, b3]
  · simp [Instr.sliceAt, Instr.slice, Instr.sliceBounds, run_underlying (hE.elem T e hT), hs, Result.andThen, b1, b2]

/-- The bounds of a cut. -/
theorem loA_rel {a : Act} {w : World} {μ : Nat → Value} {Nm : Nat → Prop} {s' : St} (hr : Rel c s' a w μ Nm) {lo : Option Operand} {l : Int} (hop : ∀ x, lo = some x → s'.op x = s.op x) (h : loA s lo = some l) : (lo.map a.eval = none ∧ l = 0) ∨ ∃ k, lo.map a.eval = some (.int k l) := by
  cases lo with
  | none => left; simp only [loA] at h; injection h with h; exact ⟨rfl, h.symm⟩
  | some y =>
    right
    simp only [loA] at h
    split at h
    · rename_i l' hy
      injection h with h; subst h
      have h1 := hr.op y
      rw [hop y rfl, hy] at h1
      simp only [VRel] at h1
      exact ⟨.i64, by simp [h1]⟩
    · cases h
theorem hiA_rel {a : Act} {w : World} {μ : Nat → Value} {Nm : Nat → Prop} {s' : St} (hr : Rel c s' a w μ Nm) {hi : Option Operand} {n : Nat} {h : Int} (hop : ∀ x, hi = some x → s'.op x = s.op x) (hh : hiA s n hi = some h) : (hi.map a.eval = none ∧ h = (n : Int)) ∨ ∃ k, hi.map a.eval = some (.int k h) := by
  cases hi with
  | none => left; simp only [hiA] at hh; injection hh with hh; exact ⟨rfl, hh.symm⟩
  | some y =>
    right
    simp only [hiA] at hh
    split at hh
    · rename_i l' hy
      injection hh with hh; subst hh
      have h1 := hr.op y
      rw [hop y rfl, hy] at h1
      simp only [VRel] at h1
      exact ⟨.i64, by simp [h1]⟩
    · cases hh

/-- A cut that is read: what it is a cut of is frozen. -/
theorem slice_ro_ok (hE : EnvOK P E) {T e : TypeId} {t : Ty} {x : Operand} {lo hi : Option Operand} {l h : Int} {xs : List t.D} {ns : List Nat} (ho : o.op = .slice T x lo hi none) (hT : E.elem T = some e) (ht : E.ty e = some t) (hrow : rowOf s.mem e t (s.op x) = some (xs, ns)) (hlo : loA s lo = some l) (hhi : hiA s xs.length hi = some h) (h0 : 0 ≤ l) (h1 : l ≤ h) (h2 : h ≤ (xs.length : Int)) :
    OpOK P c o s b ⟨.ro e t ((xs.take h.toNat).drop l.toNat), frz s.mem ns, ns⟩ := by
  intro s' a w μ Nm next Q hag hr hf hd hn
  have ox := hag.ops x (by simp [Op.operands, ho])
  have hrow' := rowOf_agree hag hrow (fun n hn => hn)
  rw [← ox] at hrow'
  have hV := rowOf_rel hr.objs hrow' (hr.op x)
  have g := Rel.frzL ns (Froz.refl s'.mem) hr
  rw [frz_agree hag (ns := ns) (fun n hn => hn)] at hn
  obtain ⟨g1, g2, g3, g4, g5⟩ := g
  have hS : ∀ k, withB μ s'.mem (stab c μ s'.mem) ns k → stab c μ (updL s'.mem (frz s'.mem ns)) k := by
    intro k hk
    rcases hk with hk | ⟨n, hn', hl, hk⟩
    · exact g2 k hk
    · obtain ⟨f, e', t', ys, hm⟩ := rowOf_mem hrow' n hn'
      exact g3 n hn' ⟨f, e', t', ys, hm⟩ hl k hk
  have hV' := Kd.V_mono hV hS
  obtain ⟨A, cp, hxv, hl, hF⟩ := hV'
  have hrl := loA_rel hr (s := s) (fun y hy => hag.ops y (by simp [Op.operands, ho, hy])) hlo
  have hrh := hiA_rel hr (s := s) (fun y hy => hag.ops y (by simp [Op.operands, ho, hy])) hhi
  have hrun := sliceAt_run (P := P) hE hT ht (w := w) (A := A) (len := xs.length) (cap := cp) hrl hrh h0 h1 h2 hl
  refine wp_value (by simp only [execOp, ho, hxv]; exact run_v hrun) ?_
  have hF2 := Kd.F_mid hF (lo := l.toNat) (hi := h.toNat) (by omega) (by omega) hl
  rw [kd_sz] at hF2
  have hlen : ((xs.take h.toNat).drop l.toNat).length = h.toNat - l.toNat := by simp; omega
  have g6 := g1.put o.dst hd (v := .ro e t ((xs.take h.toNat).drop l.toNat)) (x := .slice (if cp = l.toNat then A else A.map (·.add (l.toNat * t.sz))) (h.toNat - l.toNat) (cp - l.toNat)) (by
    simp only [VRel]
    rw [← hlen]
    exact Kd.V_mk (by rw [hlen]; omega) hF2)
  refine hn _ _ μ Nm ?_ (fun n hn => .inl hn)
  rw [app_put]
  rw [put_mem] at g6
  exact g6

/-- A cut of nothing. -/
theorem slice_nil_ok (hE : EnvOK P E) {T e : TypeId} {t : Ty} {x : Operand} {lo hi : Option Operand} {l h : Int} {xs : List t.D} {ns : List Nat} (ho : o.op = .slice T x lo hi none) (hT : E.elem T = some e) (ht : E.ty e = some t) (hx : s.op x = .nil) (hrow : rowOf s.mem e t (s.op x) = some (xs, ns)) (hlo : loA s lo = some l) (hhi : hiA s xs.length hi = some h) (h0 : 0 ≤ l) (h1 : l ≤ h) (h2 : h ≤ (xs.length : Int)) :
    OpOK P c o s b ⟨.nil, [], []⟩ := by
  refine OpOK.pure fun s' a w μ Nm hag hr => ?_
  have ox := hag.ops x (by simp [Op.operands, ho])
  have hxv := hr.op x
  rw [ox, hx] at hxv
  simp only [VRel] at hxv
  rw [hx] at hrow
  simp only [rowOf] at hrow
  injection hrow with hrow
  injection hrow with e1 e2
  subst e1
  simp only [List.length_nil] at h2 hhi
  have el : l = 0 := by omega
  have eh : h = 0 := by omega
  subst el; subst eh
  have hrl := loA_rel hr (s := s) (fun y hy => hag.ops y (by simp [Op.operands, ho, hy])) hlo
  have hrh := hiA_rel hr (s := s) (fun y hy => hag.ops y (by simp [Op.operands, ho, hy])) hhi
  have hrun := sliceAt_run (P := P) hE hT ht (w := w) (A := none) (len := 0) (cap := 0) hrl hrh (Int.le_refl 0) (Int.le_refl 0) (Int.le_refl 0) (Nat.le_refl 0)
  refine ⟨_, by simp only [execOp, ho, hxv]; exact run_v hrun, ?_⟩
  simp [VRel]

/-- A view of a row of the call's own. -/
theorem slice_view_ok (hE : EnvOK P E) {T e : TypeId} {t : Ty} {x : Operand} {lo hi : Option Operand} {l h : Int} {xs : List t.D} {ns : List Nat} {m : Nat} (ho : o.op = .slice T x lo hi none) (hT : E.elem T = some e) (ht : E.ty e = some t) (hx : s.op x = .own m) (hrow : rowOf s.mem e t (s.op x) = some (xs, ns)) (hl : liveN s.mem m = true) (hlo : loA s lo = some l) (hhi : hiA s xs.length hi = some h) (h0 : 0 ≤ l) (h1 : l ≤ h) (h2 : h ≤ (xs.length : Int)) :
    OpOK P c o s b ⟨.vw m t.sz l h, [], [m]⟩ := by
  refine OpOK.pure fun s' a w μ Nm hag hr => ?_
  have ox := hag.ops x (by simp [Op.operands, ho])
  rw [hx] at hrow
  obtain ⟨hns, f, hm⟩ := rowOf_own hrow
  simp only [liveN, hm] at hl
  subst hl
  have hm' : s'.mem m = some (.row true e t xs) := by rw [hag.mem m (by simp)]; exact hm
  have hN := hr.objs m _ hm'
  simp only [ORel] at hN
  have hxv := hr.op x
  rw [ox, hx] at hxv
  simp only [VRel] at hxv
  obtain ⟨A, cp, hv⟩ := Kd.N_slice hN.1
  have hN1 := hN.1
  rw [hv] at hN1
  have hlc := (Kd.N_at hN1).2
  have hrl := loA_rel hr (s := s) (fun y hy => hag.ops y (by simp [Op.operands, ho, hy])) hlo
  have hrh := hiA_rel hr (s := s) (fun y hy => hag.ops y (by simp [Op.operands, ho, hy])) hhi
  have hrun := sliceAt_run (P := P) hE hT ht (w := w) (A := A) (len := xs.length) (cap := cp) hrl hrh h0 h1 h2 hlc
  refine ⟨_, by simp only [execOp, ho, hxv.2.1, hv]; exact run_v hrun, ?_⟩
  simp only [VRel]
  exact ⟨hxv.1, h0, h1, A, xs.length, cp, hv, h2, hlc, rfl⟩

/-- A row of the call's own, made shorter: it stays the call's own. -/
theorem slice_own_ok (hE : EnvOK P E) {T e : TypeId} {t : Ty} {x : Operand} {hi : Option Operand} {h : Int} {xs : List t.D} {ns : List Nat} {m : Nat} (ho : o.op = .slice T x none hi none) (hT : E.elem T = some e) (ht : E.ty e = some t) (hx : s.op x = .own m) (hrow : rowOf s.mem e t (s.op x) = some (xs, ns)) (hl : liveN s.mem m = true) (hhi : hiA s xs.length hi = some h) (h0 : 0 ≤ h) (h2 : h ≤ (xs.length : Int)) :
    OpOK P c o s b ⟨.own b, [(m, none), (b, some (.row true e t (xs.take h.toNat)))], [m, b]⟩ := by
  intro s' a w μ Nm next Q hag hr hf hd hn
  have ox := hag.ops x (by simp [Op.operands, ho])
  rw [hx] at hrow
  obtain ⟨hns, f, hm⟩ := rowOf_own hrow
  simp only [liveN, hm] at hl
  subst hl
  have hm' : s'.mem m = some (.row true e t xs) := by rw [hag.mem m (by simp)]; exact hm
  have hN := hr.objs m _ hm'
  simp only [ORel] at hN
  have hxv := hr.op x
  rw [ox, hx] at hxv
  simp only [VRel] at hxv
  obtain ⟨A, cp, hv⟩ := Kd.N_slice hN.1
  have hN1 := hN.1
  rw [hv] at hN1
  have hlc := (Kd.N_at hN1).2
  have hrh := hiA_rel hr (s := s) (fun y hy => hag.ops y (by simp [Op.operands, ho, hy])) hhi
  have hrun := sliceAt_run (P := P) hE hT ht (w := w) (A := A) (len := xs.length) (cap := cp) (.inl ⟨rfl, rfl⟩) hrh (Int.le_refl 0) h0 h2 hlc
  have hA : (if cp = (0 : Int).toNat then A else A.map (·.add ((0 : Int).toNat * t.sz))) = A := by
    split
    · rfl
    · cases A <;> simp [Addr.add]
  rw [hA] at hrun
  refine wp_value (by simp only [execOp, ho, hxv.2.1, hv]; exact run_v hrun) ?_
  have hT2 := Kd.N_take hN1 (m := h.toNat) (by omega)
  have hob : (Value.slice A h.toNat cp).ownBlock = (μ m).ownBlock := by rw [hv]; cases A <;> rfl
  simp only [Int.toNat_zero, Nat.sub_zero]
  obtain ⟨μ', Nm', g1, g2, g3, g4⟩ := hr.turn (b := b) (x := μ m) (v := .slice A h.toNat cp) (w' := w) (ns := [m]) (.inr ⟨m, e, t, xs, rfl, rfl, hm'⟩) ⟨rfl, rfl, rfl, Nat.le_refl _, fun _ _ _ => rfl⟩ (.inl hob) (hf b (Nat.le_refl _) (by omega)) (e := e) (t := t) (xs := xs.take h.toNat) (Kd.N_mono (Kd.N_bound hT2) (fun k hk => by
    rcases hk.1 with h3 | h3
    · exact .inl ⟨h3, hk.2⟩
    · rw [← hv] at h3; exact .inr (.inr (.inr h3))))
  have g5 := g1.put o.dst hd (v := .own b) (x := .slice A h.toNat cp) (by simp only [VRel]; exact ⟨g2, g3.symm, rfl⟩)
  refine hn _ _ μ' Nm' ?_ (fun n h => (g4 n h).imp id (fun e => by omega))
  rw [app_put]
  rw [put_mem] at g5
  exact g5
end
end Go.Proofs.Ytinopkpnlibopaa.Ab
