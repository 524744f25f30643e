import Derived.Test.YtinopkpnlibopaaAbOps2
/- Operations that make memory. -/
set_option linter.unusedVariables false
set_option linter.unusedSimpArgs false
namespace Go.Proofs.Ytinopkpnlibopaa.Ab
open Go.RowKit

section
variable {P : Program} {E : Env} {c : Ctx} {o : Oper} {s : St} {b : Nat} {R : Type} {κ : Eff → Option R} {r : R}

/-- New memory, new names. -/
theorem Rel.grow {s : St} {a : Act} {w w' : World} {μ μ' : Nat → Value} {Nm Nm' : Nat → Prop} {m' : Nat → Option Obj} (h : Rel c s a w μ Nm) (hb : Below w.heap.size w w')
    (hold : ∀ n, Nm n → m' n = s.mem n ∧ μ' n = μ n) (hN : ∀ n, Nm n → Nm' n) (hN' : ∀ n o, m' n = some o → Nm' n)
    (hnew : ∀ n o, ¬ Nm n → m' n = some o → o.live = true → ∀ k, blk (μ' n) = some k → w.heap.size ≤ k)
    (hdist : ∀ n n' o o', ¬ Nm n → ¬ Nm n' → m' n = some o → m' n' = some o' → o.live = true → o'.live = true → n ≠ n' → ∀ k, blk (μ' n) = some k → blk (μ' n') ≠ some k)
    (hO : ∀ n o, ¬ Nm n → m' n = some o → ORel c μ' Nm' (stab c μ' m') w' n o) : Rel c { s with mem := m' } a w' μ' Nm' := by
  have hle : c.base ≤ w.heap.size := h.below.size
  refine h.next (s' := { s with mem := m' }) h.size h.defers (h.below.trans (Below.toX (hb.mono hle) c.X)) (fun k _ hlt => hb.block k hlt) (fun k hk hlt => ⟨hk.1, fun n o hn hl hbk => ?_⟩) (fun n hn => (hold n hn).2) hN (fun n o hn => ?_) (fun n n' o o' hn hn' hl hl' hne k hk hk' => ?_) (fun x => .inl ⟨rfl, rfl⟩)
  · by_cases hm : Nm n
    · rw [(hold n hm).2] at hbk
      exact hk.2 n o (by rw [← (hold n hm).1]; exact hn) hl hbk
    · have := hnew n o hm hn hl k hbk
      omega
  · by_cases hm : Nm n
    · refine .inl ⟨by rw [← (hold n hm).1]; exact hn, fun hl k hk => ?_⟩
      exact hb.block k (h.stab_lt (by rw [← (hold n hm).1]; exact hn) hl hk).2.1
    · exact .inr ⟨hN' n o hn, hO n o hm hn⟩
  · by_cases hm : Nm n
    · by_cases hm' : Nm n'
      · rw [(hold n hm).2] at hk
        rw [(hold n' hm').2] at hk'
        exact h.dist n n' o o' (by rw [← (hold n hm).1]; exact hn) (by rw [← (hold n' hm').1]; exact hn') hl hl' hne k hk hk'
      · rw [(hold n hm).2] at hk
        have h1 := (h.stab_lt (by rw [← (hold n hm).1]; exact hn) hl hk).2.1
        have h2 := hnew n' o' hm' hn' hl' k hk'
        omega
    · by_cases hm' : Nm n'
      · rw [(hold n' hm').2] at hk'
        have h1 := (h.stab_lt (by rw [← (hold n' hm').1]; exact hn') hl' hk').2.1
        have h2 := hnew n o hm hn hl k hk
        omega
      · exact hdist n n' o o' hm hm' hn hn' hl hl' hne k hk hk'

/-- One more of them. -/
theorem Rel.add {s : St} {a : Act} {w w' : World} {μ : Nat → Value} {Nm : Nat → Prop} (h : Rel c s a w μ Nm) (hb : Below w.heap.size w w') (b : Nat) (hf : ¬ Nm b) (o : Obj) (x : Value)
    (hblk : ∀ k, blk x = some k → w.heap.size ≤ k)
    (hO : ∀ (μ' : Nat → Value) (Nm' S' : Nat → Prop), (∀ n, Nm n → μ' n = μ n) → μ' b = x → (∀ n, Nm n → Nm' n) → (∀ k, stab c μ s.mem k → k < w.heap.size → S' k) → (∀ k, w.heap.size ≤ k → blk x ≠ some k → S' k) → ORel c μ' Nm' S' w' b o) :
    ∃ μ' Nm', Rel c { s with mem := upd1 s.mem b (some o) } a w' μ' Nm' ∧ Nm' b ∧ μ' b = x ∧ (∀ n, Nm' n → Nm n ∨ n = b) ∧ (∀ n, Nm n → Nm' n) ∧ ∀ n, Nm n → μ' n = μ n := by
  have hle : c.base ≤ w.heap.size := h.below.size
  have hne : ∀ n, Nm n → b ≠ n := fun n hn e => hf (e ▸ hn)
  have hμ : ∀ n, Nm n → (fun n => if b = n then x else μ n) n = μ n := fun n hn => by simp [hne n hn]
  have hS1 : ∀ k, stab c μ s.mem k → k < w.heap.size → stab c (fun n => if b = n then x else μ n) (upd1 s.mem b (some o)) k := fun k hk hlt => ⟨hk.1, fun n o' hn hl hbk => by
    simp only [upd1_get] at hn
    by_cases e : b = n
    · simp only [e, if_true] at hbk
      have := hblk k hbk; omega
    · simp only [e, if_false] at hn hbk
      exact hk.2 n o' hn hl hbk⟩
  have hS2 : ∀ k, w.heap.size ≤ k → blk x ≠ some k → stab c (fun n => if b = n then x else μ n) (upd1 s.mem b (some o)) k := fun k hk hx => ⟨.inr (.inl (Nat.le_trans hle hk)), fun n o' hn hl hbk => by
    simp only [upd1_get] at hn
    by_cases e : b = n
    · simp only [e, if_true] at hbk
      exact hx hbk
    · simp only [e, if_false] at hn hbk
      have := (h.stab_lt hn hl hbk).2.1
      omega⟩
  refine ⟨fun n => if b = n then x else μ n, fun n => Nm n ∨ n = b, h.grow hb (fun n hn => ⟨by rw [upd1_get]; simp [hne n hn], hμ n hn⟩) (fun n hn => .inl hn) (fun n o' hn => ?_) (fun n o' hm hn hl k hk => ?_) (fun n n' o1 o2 hm hm' hn hn' _ _ hne' => ?_) (fun n o' hm hn => ?_), .inr rfl, by simp, fun n hn => hn, fun n hn => .inl hn, hμ⟩
  · rw [upd1_get] at hn
    by_cases e : b = n
    · exact .inr e.symm
    · simp only [e, if_false] at hn
      exact .inl (h.names n o' hn)
  · rw [upd1_get] at hn
    by_cases e : b = n
    · simp only [e, if_true] at hk
      exact hblk k hk
    · simp only [e, if_false] at hn
      exact absurd (h.names n o' hn) hm
  · rw [upd1_get] at hn hn'
    by_cases e : b = n
    · by_cases e' : b = n'
      · exact absurd (e.symm.trans e') hne'
      · simp only [e', if_false] at hn'
        exact absurd (h.names n' o2 hn') hm'
    · simp only [e, if_false] at hn
      exact absurd (h.names n o1 hn) hm
  · rw [upd1_get] at hn
    by_cases e : b = n
    · simp only [e, if_true] at hn
      injection hn with hn
      subst hn; subst e
      exact hO _ _ _ hμ (by simp) (fun n hn => .inl hn) hS1 hS2
    · simp only [e, if_false] at hn
      exact absurd (h.names n o' hn) hm

theorem cells_one {x : Value} (h : x.oneCell' = true) : x.cells = #[x] := by
  cases x <;> first | rfl | cases h

theorem cells_rel {μ : Nat → Value} {Nm S : Nat → Prop} {w : World} {v : AV} {x : Value} (hd : defA v = true) (h : VRel μ Nm S w v x) : VRels μ Nm S w (cellsA v) x.cells.toList := by
  have one : ∀ (y : Value), x.cells = #[x] → VRels μ Nm S w [v] x.cells.toList := fun _ hx => by rw [hx]; simp only [VRels, and_true]; exact h
  cases v with
  | undef => cases hd
  | hole => cases hd
  | agg cs =>
    simp only [VRel] at h
    obtain ⟨vs, rfl, hv⟩ := h
    exact hv
  | int k n => have h' := h; simp only [VRel] at h'; subst h'; exact one undef rfl
  | bool k => have h' := h; simp only [VRel] at h'; subst h'; exact one undef rfl
  | str k => have h' := h; simp only [VRel] at h'; subst h'; exact one undef rfl
  | nil => have h' := h; simp only [VRel] at h'; subst h'; exact one undef rfl
  | ro e t xs => have h' := h; simp only [VRel] at h'; obtain ⟨A, cp, rfl, _⟩ := h'; exact one undef rfl
  | vw n z l hh => have h' := h; simp only [VRel] at h'; obtain ⟨_, _, _, A, len, cap, _, _, _, rfl⟩ := h'; exact one undef rfl
  | rz z e t xs => have h' := h; simp only [VRel] at h'; obtain ⟨⟨A, cp, rfl, _⟩, _⟩ := h'; exact one undef rfl
  | own n => have h' := h; simp only [VRel] at h'; exact one undef (cells_one h'.2.2)
  | ptr n off => have h' := h; simp only [VRel] at h'; obtain ⟨_, g, _, rfl⟩ := h'; exact one undef rfl
  | elo n z i off => have h' := h; simp only [VRel] at h'; obtain ⟨_, g, l, cp, _, _, _, rfl⟩ := h'; exact one undef rfl
  | elr t y off => have h' := h; simp only [VRel] at h'; obtain ⟨ad, cs, rfl, _⟩ := h'; exact one undef rfl
  | dyn p c j => cases hd
  | tup vs => have h' := h; simp only [VRel] at h'; obtain ⟨us, rfl, _⟩ := h'; exact one undef rfl
  | clo f cs => have h' := h; simp only [VRel] at h'; obtain ⟨us, rfl, _⟩ := h'; exact one undef rfl

theorem zero_rel {μ : Nat → Value} {Nm S : Nat → Prop} {w : World} : ∀ t : Ty, VRels μ Nm S w (zeroC t) (zeroV t)
  | .unit => by simp [zeroC, zeroV, VRels]
  | .int k => by simp [zeroC, zeroV, VRels, VRel]
  | .bool => by simp [zeroC, zeroV, VRels, VRel]
  | .str => by simp [zeroC, zeroV, VRels, VRel]
  | .sl e t => by simp [zeroC, zeroV, VRels, VRel]
  | .pair a b => by simp only [zeroC, zeroV]; exact VRels_append (zero_rel a) (zero_rel b)

theorem zero_FK {w : World} {ok : Nat → Prop} : ∀ t : Ty, Kd.FK t.kd w ok t.z (zeroV t)
  | .unit => rfl
  | .int k => rfl
  | .bool => rfl
  | .str => rfl
  | .sl e t => ⟨none, 0, rfl, Nat.le_refl _, Kd.F_nil t.kd w ok⟩
  | .pair a b => FK_pair_mk (zero_FK a) (zero_FK b)

theorem zeroV_len : ∀ t : Ty, (zeroV t).length = t.sz
  | .unit => rfl | .int _ => rfl | .bool => rfl | .str => rfl | .sl _ _ => rfl
  | .pair a b => by simp [zeroV, Ty.sz, zeroV_len a, zeroV_len b]

/-- A new variable in memory. -/
theorem new_box0 {T : TypeId} {cs : List AV} {vs : Array Value} {s' : St} {a : Act} {w : World} {μ : Nat → Value} {Nm : Nat → Prop} {next : Act → World → Prop} {Q : Exit → Act → World → Prop}
    (hr : Rel c s' a w μ Nm) (hf : ¬ Nm b) (hd : ∀ d, o.dst = some d → d < s'.n) (hv : VRels μ Nm (stab c μ s'.mem) w cs vs.toList)
    (hrun : (execOp a.eval o).run P w = .ok (.value (.pointer (some ⟨w.heap.size, 0, none⟩))) (w.alloc (.cells vs T))) {nm : List Nat}
    (hn : ∀ a' w' μ' Nm', Rel c (s'.app o.dst ⟨.ptr b 0, [(b, some (.box T cs))], nm⟩) a' w' μ' Nm' → (∀ n, Nm' n → Nm n ∨ n = b) → next a' w') : o.wp P a w next Q := by
  obtain ⟨μ', Nm', h1, h2, h3, h4, h5, h6⟩ := hr.add (w' := w.alloc (.cells vs T)) ((Below.refl _ _).alloc (Nat.le_refl _) _) b hf (.box T cs) (.pointer (some ⟨w.heap.size, 0, none⟩)) (fun k hk => by simp [blk] at hk; omega) (fun μ' Nm' S' hμ hb hN hS hS2 => by
    simp only [ORel]
    refine ⟨w.heap.size, vs, hb, .inl hr.below.size, by show (w.heap.push _)[w.heap.size]? = _; simp, VRels_step (fun k _ hlt => Below.heap_alloc _ _ _ hlt) hS hμ hN cs vs.toList hv⟩)
  refine wp_value hrun ?_
  have h7 := h1.put o.dst hd (v := .ptr b 0) (x := .pointer (some ⟨w.heap.size, 0, none⟩)) (by simp only [VRel]; exact ⟨h2, w.heap.size, h3, rfl⟩)
  refine hn _ _ μ' Nm' ?_ h4
  cases hdst : o.dst with
  | none => rw [hdst] at h7; exact h7
  | some d => rw [hdst] at h7; exact h7

theorem new_box {T : TypeId} {cs : List AV} {vs : Array Value} {s' : St} {a : Act} {w : World} {μ : Nat → Value} {Nm : Nat → Prop} {next : Act → World → Prop} {Q : Exit → Act → World → Prop}
    (hr : Rel c s' a w μ Nm) (hf : ∀ n, b ≤ n → n < b + 64 → ¬ Nm n) (hd : ∀ d, o.dst = some d → d < s'.n) (hv : VRels μ Nm (stab c μ s'.mem) w cs vs.toList)
    (hrun : (execOp a.eval o).run P w = .ok (.value (.pointer (some ⟨w.heap.size, 0, none⟩))) (w.alloc (.cells vs T)))
    (hn : ∀ a' w' μ' Nm', Rel c (s'.app o.dst ⟨.ptr b 0, [(b, some (.box T cs))], [b]⟩) a' w' μ' Nm' → (∀ n, Nm' n → Nm n ∨ (b ≤ n ∧ n < b + 64)) → next a' w') : o.wp P a w next Q :=
  new_box0 hr (hf b (Nat.le_refl _) (by omega)) hd hv hrun (nm := [b]) (fun a' w' μ' Nm' h h' => hn a' w' μ' Nm' h (fun n hn => (h' n hn).imp id (fun e => by omega)))

theorem nil_row {s : St} {a : Act} {w : World} {μ : Nat → Value} {Nm : Nat → Prop} (hr : Rel c s a w μ Nm) {b : Nat} (hf : ¬ Nm b) (e : TypeId) (t : Ty) :
    ∃ μ' Nm', Rel c { s with mem := upd1 s.mem b (some (.row true e t [])) } a w μ' Nm' ∧ Nm' b ∧ μ' b = .slice none 0 0 ∧ (∀ n, Nm' n → Nm n ∨ n = b) ∧ (∀ n, Nm n → Nm' n) ∧ (∀ n, Nm n → μ' n = μ n) ∧ ∀ k, stab c μ s.mem k → stab c μ' (upd1 s.mem b (some (.row true e t []))) k := by
  obtain ⟨μ', Nm', h1, h2, h3, h4, h5, h6⟩ := hr.add (w' := w) (Below.refl _ _) b hf (.row true e t []) (.slice none 0 0) (fun k hk => by simp [blk] at hk) (fun μ' Nm' S' hμ hb hN hS hS2 => by
    simp only [ORel]
    rw [hb]
    exact ⟨Kd.N_nil _ _ _ _ _, fun k hk => by simp [Value.ownBlock] at hk⟩)
  refine ⟨μ', Nm', h1, h2, h3, h4, h5, h6, fun k hk => ⟨hk.1, fun n o hn hl hbk => ?_⟩⟩
  rw [upd1_get] at hn
  by_cases e : b = n
  · subst e; rw [h3] at hbk; simp [blk] at hbk
  · simp only [e, if_false] at hn
    rw [h6 n (hr.names n o hn)] at hbk
    exact hk.2 n o hn hl hbk

theorem updL_app (m : Nat → Option Obj) : ∀ (us vs : List (Nat × Option Obj)), updL m (us ++ vs) = updL (updL m us) vs
  | [], _ => rfl
  | (n, o) :: us, vs => by simp only [List.cons_append, updL]; exact updL_app _ us vs

theorem ownZ_le : ∀ (ts : List (Option (TypeId × Ty))) (cs : List AV) (b : Nat), b ≤ (ownZ ts cs b).2.2
  | [], cs, b => by simp [ownZ]
  | none :: ts, [], b => by simp [ownZ]
  | some _ :: ts, [], b => by simp [ownZ]
  | none :: ts, v :: r, b => by simp only [ownZ]; exact ownZ_le ts r b
  | some (e, t) :: ts, v :: r, b => by
    have h1 := ownZ_le ts r (b + 1)
    have h2 := ownZ_le ts r b
    cases v <;> simp only [ownZ] <;> first | exact h2 | exact Nat.le_trans (Nat.le_succ b) h1

theorem ownZ_nil (e : TypeId) (t : Ty) (ts : List (Option (TypeId × Ty))) (r : List AV) (b : Nat) : ownZ (some (e, t) :: ts) (.nil :: r) b = (.own b :: (ownZ ts r (b + 1)).1, (b, some (.row true e t [])) :: (ownZ ts r (b + 1)).2.1, (ownZ ts r (b + 1)).2.2) := rfl

/-- Nil slices become empty rows of the call's own. -/
theorem ownZ_rel : ∀ (ts : List (Option (TypeId × Ty))) (cs : List AV) (vs : List Value) (b : Nat) {s : St} {a : Act} {w : World} {μ : Nat → Value} {Nm : Nat → Prop}, Rel c s a w μ Nm → VRels μ Nm (stab c μ s.mem) w cs vs → (∀ n, b ≤ n → n < (ownZ ts cs b).2.2 → ¬ Nm n) →
    ∃ μ' Nm', Rel c { s with mem := updL s.mem (ownZ ts cs b).2.1 } a w μ' Nm' ∧ VRels μ' Nm' (stab c μ' (updL s.mem (ownZ ts cs b).2.1)) w (ownZ ts cs b).1 vs ∧ (∀ n, Nm' n → Nm n ∨ (b ≤ n ∧ n < (ownZ ts cs b).2.2)) ∧ (∀ n, Nm n → Nm' n) ∧ (∀ n, Nm n → μ' n = μ n) ∧ ∀ k, stab c μ s.mem k → stab c μ' (updL s.mem (ownZ ts cs b).2.1) k
  | [], cs, vs, b, s, a, w, μ, Nm, hr, hv, hf => ⟨μ, Nm, by simpa [ownZ, updL] using hr, by simpa [ownZ, updL] using hv, fun _ h => .inl h, fun _ h => h, fun _ _ => rfl, fun _ h => by simpa [ownZ, updL] using h⟩
  | none :: ts, [], vs, b, s, a, w, μ, Nm, hr, hv, hf => ⟨μ, Nm, by simpa [ownZ, updL] using hr, by simpa [ownZ, updL] using hv, fun _ h => .inl h, fun _ h => h, fun _ _ => rfl, fun _ h => by simpa [ownZ, updL] using h⟩
  | some _ :: ts, [], vs, b, s, a, w, μ, Nm, hr, hv, hf => ⟨μ, Nm, by simpa [ownZ, updL] using hr, by simpa [ownZ, updL] using hv, fun _ h => .inl h, fun _ h => h, fun _ _ => rfl, fun _ h => by simpa [ownZ, updL] using h⟩
  | t :: ts, v :: r, [], b, s, a, w, μ, Nm, hr, hv, hf => by simp only [VRels] at hv
  | t :: ts, v :: r, x :: xs, b, s, a, w, μ, Nm, hr, hv, hf => by
    simp only [VRels] at hv
    by_cases hz : (∃ e u, t = some (e, u)) ∧ v = .nil
    · obtain ⟨⟨e, u, rfl⟩, rfl⟩ := hz
      have hx := hv.1
      simp only [VRel] at hx
      subst hx
      rw [ownZ_nil] at hf ⊢
      have hle := ownZ_le ts r (b + 1)
      generalize hq : ownZ ts r (b + 1) = q at hf hle ⊢
      obtain ⟨q1, q2, q3⟩ := q
      simp only at hf hle ⊢
      obtain ⟨μ1, Nm1, h1, h2, h3, h4, h5, h6, h7⟩ := nil_row hr (hf b (Nat.le_refl _) (by omega)) e u
      obtain ⟨μ2, Nm2, k1, k2, k3, k4, k5, k6⟩ := ownZ_rel ts r xs (b + 1) h1 (VRels_step (fun _ _ _ => rfl) (fun k hk _ => h7 k hk) h6 h5 _ _ hv.2) (fun n hn hn' h => by
        rw [hq] at hn'
        rcases h4 n h with h | h
        · exact hf n (by omega) hn' h
        · omega)
      rw [hq] at k1 k2 k3 k6
      simp only at k1 k2 k3 k6
      refine ⟨μ2, Nm2, k1, ?_, fun n hn => ?_, fun n hn => k4 n (h5 n hn), fun n hn => by rw [k5 n (h5 n hn), h6 n hn], fun k hk => k6 k (h7 k hk)⟩
      · simp only [VRels]
        refine ⟨?_, k2⟩
        simp only [VRel]
        exact ⟨k4 b h2, by rw [k5 b h2, h3], rfl⟩
      · rcases k3 n hn with h | h
        · rcases h4 n h with h | h
          · exact .inl h
          · exact .inr ⟨by omega, by omega⟩
        · exact .inr ⟨by omega, h.2⟩
    · have hz' : ownZ (t :: ts) (v :: r) b = (v :: (ownZ ts r b).1, (ownZ ts r b).2.1, (ownZ ts r b).2.2) := by
        cases t with
        | none => simp only [ownZ]
        | some p =>
          obtain ⟨e, u⟩ := p
          cases v <;> first | (simp only [ownZ]; done) | exact absurd ⟨⟨e, u, rfl⟩, rfl⟩ hz
      rw [hz'] at hf ⊢
      obtain ⟨μ2, Nm2, k1, k2, k3, k4, k5, k6⟩ := ownZ_rel ts r xs b hr hv.2 hf
      refine ⟨μ2, Nm2, k1, ?_, k3, k4, k5, k6⟩
      simp only [VRels]
      exact ⟨VRel_step (fun _ _ _ => rfl) (fun k hk _ => k6 k hk) k5 k4 _ _ hv.1, k2⟩

theorem box_ok {T : TypeId} {x : Operand} (ho : o.op = .box T x) (hx : defA (s.op x) = true) : OpOK P c o s b ⟨.ptr b 0, [(b, some (.box T (cellsA (s.op x))))], [b]⟩ := by
  intro s' a w μ Nm next Q hag hr hf hd hn
  have h1 := hr.op x
  rw [hag.ops x (by simp [Op.operands, ho])] at h1
  exact new_box hr hf hd (cells_rel hx h1) (by simp [execOp, ho, Instr.box, newVar, newRow, newObj, Sem.run, Result.andThen]) hn

theorem alloc_ok (hE : EnvOK P E) {T : TypeId} {t : Ty} (ho : o.op = .alloc T) (ht : E.ty T = some t) : OpOK P c o s b ⟨.ptr b 0, [(b, some (.box T (zeroC t)))], [b]⟩ := by
  intro s' a w μ Nm next Q hag hr hf hd hn
  obtain ⟨i, z, hi, _, _, hz, hc⟩ := (hE.ty T t ht).info
  exact new_box (vs := z.cells) hr hf hd (by rw [hc]; exact zero_rel t) (by simp [execOp, ho, Instr.alloc, zeroValue, typeInfo, hi, hz, newVar, newRow, newObj, Sem.run, Result.andThen]) hn

theorem app_app {s : St} {d : Option Tmp} {v : AV} {us : List (Nat × Option Obj)} {q : Nat × Option Obj} {nm nm' : List Nat} : ({ s with mem := updL s.mem us } : St).app d ⟨v, [q], nm⟩ = s.app d ⟨v, us ++ [q], nm'⟩ := by
  cases d <;> simp only [St.app, St.put, updL_app]

theorem z_ok {ts : List (Option (TypeId × Ty))} {cs0 cs : List AV} {us : List (Nat × Option Obj)} {b' : Nat} {T : TypeId} {vs : Array Value} (hz : ownZ ts cs0 (b + 1) = (cs, us, b')) (hb' : b' ≤ b + 64)
    {s' : St} {a : Act} {w : World} {μ : Nat → Value} {Nm : Nat → Prop} {next : Act → World → Prop} {Q : Exit → Act → World → Prop} (hr : Rel c s' a w μ Nm) (hf : ∀ n, b ≤ n → n < b + 64 → ¬ Nm n) (hd : ∀ d, o.dst = some d → d < s'.n)
    (hv : VRels μ Nm (stab c μ s'.mem) w cs0 vs.toList) (hrun : (execOp a.eval o).run P w = .ok (.value (.pointer (some ⟨w.heap.size, 0, none⟩))) (w.alloc (.cells vs T))) {nm : List Nat}
    (hn : ∀ a' w' μ' Nm', Rel c (s'.app o.dst ⟨.ptr b 0, us ++ [(b, some (.box T cs))], nm⟩) a' w' μ' Nm' → (∀ n, Nm' n → Nm n ∨ (b ≤ n ∧ n < b + 64)) → next a' w') : o.wp P a w next Q := by
  have h := ownZ_rel (c := c) ts cs0 vs.toList (b + 1) hr hv (fun n h1 h2 => hf n (by omega) (by rw [hz] at h2; simp only at h2; omega))
  rw [hz] at h
  obtain ⟨μ1, Nm1, h1, h2, h3, h4, h5, h6⟩ := h
  refine new_box0 (b := b) (nm := []) h1 (fun hb => ?_) hd h2 hrun (fun a' w' μ' Nm' k1 k2 => ?_)
  · rcases h3 b hb with h | h
    · exact hf b (Nat.le_refl _) (by omega) h
    · omega
  · refine hn a' w' μ' Nm' ?_ (fun n hn => ?_)
    · rw [← app_app (nm := [])]; exact k1
    · rcases k2 n hn with h | h
      · rcases h3 n h with h | h
        · exact .inl h
        · simp only at h; exact .inr ⟨by omega, by omega⟩
      · exact .inr ⟨by omega, by omega⟩

theorem box_z {T : TypeId} {x : Operand} (ho : o.op = .box T x) (hx : defA (s.op x) = true) {ts : List (Option (TypeId × Ty))} {cs : List AV} {us : List (Nat × Option Obj)} {b' : Nat} (hz : ownZ ts (cellsA (s.op x)) (b + 1) = (cs, us, b')) (hb' : b' ≤ b + 64) : OpOK P c o s b ⟨.ptr b 0, us ++ [(b, some (.box T cs))], b :: namesOf us⟩ := by
  intro s' a w μ Nm next Q hag hr hf hd hn
  have h1 := hr.op x
  rw [hag.ops x (by simp [Op.operands, ho])] at h1
  exact z_ok hz hb' hr hf hd (cells_rel hx h1) (by simp [execOp, ho, Instr.box, newVar, newRow, newObj, Sem.run, Result.andThen]) hn

theorem alloc_z (hE : EnvOK P E) {T : TypeId} {t : Ty} (ho : o.op = .alloc T) (ht : E.ty T = some t) {ts : List (Option (TypeId × Ty))} {cs : List AV} {us : List (Nat × Option Obj)} {b' : Nat} (hz : ownZ ts (zeroC t) (b + 1) = (cs, us, b')) (hb' : b' ≤ b + 64) : OpOK P c o s b ⟨.ptr b 0, us ++ [(b, some (.box T cs))], b :: namesOf us⟩ := by
  intro s' a w μ Nm next Q hag hr hf hd hn
  obtain ⟨i, z, hi, _, _, hz', hc⟩ := (hE.ty T t ht).info
  exact z_ok (vs := z.cells) hz hb' hr hf hd (by rw [hc]; exact zero_rel t) (by simp [execOp, ho, Instr.alloc, zeroValue, typeInfo, hi, hz', newVar, newRow, newObj, Sem.run, Result.andThen]) hn

theorem assign_z {x : Operand} (ho : o.op = .assign x) {ts : List (Option (TypeId × Ty))} {v : AV} {us : List (Nat × Option Obj)} {b' : Nat} (hz : ownZ ts [s.op x] b = ([v], us, b')) (hb' : b' ≤ b + 64) : OpOK P c o s b ⟨v, us, namesOf us⟩ := by
  intro s' a w μ Nm next Q hag hr hf hd hn
  have h1 := hr.op x
  rw [hag.ops x (by simp [Op.operands, ho])] at h1
  have h := ownZ_rel (c := c) ts [s.op x] [a.eval x] b hr (by simp only [VRels, and_true]; exact h1) (fun n h1 h2 => hf n h1 (by rw [hz] at h2; simp only at h2; omega))
  rw [hz] at h
  obtain ⟨μ1, Nm1, g1, g2, g3, g4, g5, g6⟩ := h
  simp only [VRels, and_true] at g2
  refine wp_value (v := a.eval x) (w' := w) (by simp [execOp, ho, Sem.run]) ?_
  have h7 := g1.put o.dst hd g2
  refine hn _ _ μ1 Nm1 ?_ (fun n h => (g3 n h).imp id (fun e => by simp only at e; omega))
  cases hdst : o.dst with
  | none => rw [hdst] at h7; exact h7
  | some d => rw [hdst] at h7; exact h7

/-- A new row. -/
theorem new_row {e : TypeId} {t : Ty} {xs : List t.D} {v : Value} {s' : St} {a : Act} {w w' : World} {μ : Nat → Value} {Nm : Nat → Prop} {next : Act → World → Prop}
    (hr : Rel c s' a w μ Nm) (hf : ∀ n, b ≤ n → n < b + 64 → ¬ Nm n) (hd : ∀ d, o.dst = some d → d < s'.n)
    (hN : Kd.N t.kd e w' 0 (fun k => (stab c μ s'.mem k ∧ k < w.heap.size) ∨ w.heap.size ≤ k) v xs) (hg : w.grownBy w' none) (hat : ∀ g, v.ownBlock = some g → w.heap.size ≤ g) {nm : List Nat}
    (hn : ∀ a' w' μ' Nm', Rel c (s'.app o.dst ⟨.own b, [(b, some (.row true e t xs))], nm⟩) a' w' μ' Nm' → (∀ n, Nm' n → Nm n ∨ (b ≤ n ∧ n < b + 64)) → next a' w') : next (a.put o.dst v) w' := by
  have hblk : ∀ k, blk v = some k ↔ v.ownBlock = some k := by
    obtain ⟨A, cp, hv⟩ := Kd.N_slice hN
    intro k
    rw [hv]
    cases A <;> simp [blk, Value.ownBlock]
  obtain ⟨μ', Nm', h1, h2, h3, h4, h5, h6⟩ := hr.add (w' := w') ⟨hg.os, hg.tape, hg.output, hg.size, fun k hk => hg.block k hk (by simp)⟩ b (hf b (Nat.le_refl _) (by omega)) (.row true e t xs) v (fun k hk => by
    rw [hblk] at hk; exact hat k hk) (fun μ' Nm' S' hμ hb hN' hS hS2 => by
    simp only [ORel]
    rw [hb]
    refine ⟨Kd.N_mono hN (fun k hk => ?_), fun k hk => .inl (by have := hat k hk; have := hr.below.size; show c.w0.heap.size ≤ k; omega)⟩
    rcases hk with hk | hk
    · exact .inl (hS k hk.1 hk.2)
    · by_cases e : v.ownBlock = some k
      · exact .inr e.symm
      · exact .inl (hS2 k hk (by rw [ne_eq, hblk]; exact e)))
  have h7 := h1.put o.dst hd (v := .own b) (x := v) (by simp only [VRel]; exact ⟨h2, h3.symm, (Kd.N_val hN).2⟩)
  refine hn _ _ μ' Nm' ?_ (fun n h => (h4 n h).imp id (fun e => by omega))
  cases hdst : o.dst with
  | none => rw [hdst] at h7; exact h7
  | some d => rw [hdst] at h7; exact h7

/-- The same operation, its guard away. -/
theorem infoOf {T : TypeId} {t : Ty} (hT : TyOK P E T t) : ∃ z, (P.info? T).map (fun i => (i.zero, i.size, i.bytes)) = some (some z, t.kd.sz, E.byt T) ∧ z.cells.size = t.kd.sz ∧ z.cells.toList = zeroV t := by
  obtain ⟨i, z, hi, hs, hb, hz, hc⟩ := hT.info
  refine ⟨z, by rw [hi, kd_sz]; simp [hs, hb, hz], ?_, hc⟩
  rw [kd_sz, ← zeroV_len t, ← hc]; simp

theorem make_ok (hE : EnvOK P E) {T e : TypeId} {t : Ty} {x y : Operand} {n : Int} {d : Tmp} (ho : o.op = .makeSlice T x y) (hdst : o.dst = some d) (hx : s.op x = .int .i64 n) (hy : s.op y = .int .i64 n) (hT : E.elem T = some e) (ht : E.ty e = some t) (h0 : 0 ≤ n) (hl : n.toNat * E.byt e ≤ 281474976710656) : OpOK P c o s b ⟨.own b, [(b, some (.row true e t (List.replicate n.toNat t.z)))], [b]⟩ := by
  intro s' a w μ Nm next Q hag hr hf hd hn
  have h1 := hr.op x
  rw [hag.ops x (by simp [Op.operands, ho]), hx] at h1
  have h2 := hr.op y
  rw [hag.ops y (by simp [Op.operands, ho]), hy] at h2
  simp only [VRel] at h1 h2
  have hTy := hE.ty e t ht
  obtain ⟨z, hi, hz, hc⟩ := infoOf hTy
  refine Kd.N_make (base := 0) (okp := fun _ => False) (ok := fun k => (stab c μ s'.mem k ∧ k < w.heap.size) ∨ w.heap.size ≤ k) ho h1 h2 (hE.elem T e hT) hi hz (by rw [kd_sz]; exact hTy.pos) hTy.byt (z0 := t.z) (by rw [hc]; exact zero_FK t) (fun _ hk => hk.elim) (.inr (Nat.le_refl _)) h0 hl (Nat.zero_le _) (fun v1 w1 hN hg hat => ?_)
  exact new_row hr hf hd hN hg hat hn
end
end Go.Proofs.Ytinopkpnlibopaa.Ab
