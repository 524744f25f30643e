import Derived.Test.YtinopkpnlibopaaAbOps3
/- Rows that are frozen, that grow, that are written; variables that are written. -/
set_option linter.unusedVariables false
set_option linter.unusedSimpArgs false
namespace Go.Proofs.Ytinopkpnlibopaa.Ab
open Go.RowKit

section
variable {P : Program} {E : Env} {c : Ctx} {o : Oper} {s : St} {b : Nat} {R : Type} {κ : Eff → Option R} {r : R}

theorem updL_append (m : Nat → Option Obj) : ∀ (us vs : List (Nat × Option Obj)), updL m (us ++ vs) = updL (updL m us) vs
  | [], _ => rfl
  | (n, o) :: r, vs => by simp only [List.cons_append, updL]; exact updL_append (upd1 m n o) r vs

theorem V_blk {α : Type} {d : Kd α} {e : TypeId} {w : World} {base : Nat} {ok : Nat → Prop} {v : Value} {xs : List α} (h : Kd.N d e w base ok v xs) (k : Nat) : blk v = some k ↔ v.ownBlock = some k := by
  obtain ⟨A, cp, hv⟩ := Kd.N_slice h
  rw [hv]
  cases A <;> simp [blk, Value.ownBlock]

/-- A row is frozen: it is only read from now on. -/
theorem Rel.frz1 {s : St} {a : Act} {w : World} {μ : Nat → Value} {Nm : Nat → Prop} (h : Rel c s a w μ Nm) {n : Nat} {f : Bool} {e : TypeId} {t : Ty} {xs : List t.D} (hn : s.mem n = some (.row f e t xs)) :
    Rel c { s with mem := upd1 s.mem n (some (.row false e t xs)) } a w μ Nm ∧ (∀ k, stab c μ s.mem k → stab c μ (upd1 s.mem n (some (.row false e t xs))) k) ∧ (f = true → ∀ k, blk (μ n) = some k → stab c μ (upd1 s.mem n (some (.row false e t xs))) k) := by
  have hS : ∀ k, stab c μ s.mem k → stab c μ (upd1 s.mem n (some (.row false e t xs))) k := fun k hk => ⟨hk.1, fun n' o hn' hl => by
    rw [upd1_get] at hn'
    by_cases e : n = n'
    · simp only [e, if_true] at hn'; injection hn' with hn'; subst hn'; cases hl
    · simp only [e, if_false] at hn'; exact hk.2 n' o hn' hl⟩
  have hown : f = true → ∀ k, blk (μ n) = some k → stab c μ (upd1 s.mem n (some (.row false e t xs))) k := by
    intro hf k hk
    subst hf
    have ho := h.objs n _ hn
    simp only [ORel] at ho
    have hb : c.base ≤ k ∨ c.X k := ho.2 k ((V_blk ho.1 k).1 hk)
    refine ⟨.inr hb, fun n' o' hn' hl => ?_⟩
    rw [upd1_get] at hn'
    by_cases e : n = n'
    · simp only [e, if_true] at hn'; injection hn' with hn'; subst hn'; cases hl
    · simp only [e, if_false] at hn'
      exact h.dist n n' _ o' hn hn' rfl hl e k hk
  refine ⟨h.next (s' := { s with mem := upd1 s.mem n (some (.row false e t xs)) }) h.size h.defers h.below (fun _ _ _ => rfl) (fun k hk _ => hS k hk) (fun _ _ => rfl) (fun _ hn => hn) (fun n' o' hn' => ?_) (fun n1 n2 o1 o2 h1 h2 l1 l2 hne k hk => ?_) (fun x => .inl ⟨rfl, rfl⟩), hS, hown⟩
  · simp only [upd1_get] at hn'
    by_cases e : n = n'
    · simp only [e, if_true] at hn'
      injection hn' with hn'; subst hn'; subst e
      refine .inr ⟨h.names n _ hn, ?_⟩
      simp only [ORel]
      refine Kd.V_mono (row_V hn (h.objs n _ hn)) (fun k hk => ?_)
      rcases hk with hk | ⟨n', hn', hl, hk⟩
      · exact hS k hk
      · have := List.mem_singleton.1 hn'; subst this
        simp only [liveN, hn] at hl
        exact hown hl k hk
    · simp only [e, if_false] at hn'
      exact .inl ⟨hn', fun _ _ _ => rfl⟩
  · simp only [upd1_get] at h1 h2
    have k1 : n ≠ n1 := fun e => by simp only [e, if_true] at h1; injection h1 with h1; subst h1; cases l1
    have k2 : n ≠ n2 := fun e => by simp only [e, if_true] at h2; injection h2 with h2; subst h2; cases l2
    simp only [k1, if_false] at h1
    simp only [k2, if_false] at h2
    exact h.dist n1 n2 o1 o2 h1 h2 l1 l2 hne k hk

/-- What a frozen memory has of the one before. -/
def Froz (m m' : Nat → Option Obj) : Prop := ∀ n, m' n = m n ∨ ∃ f e t, ∃ xs : List t.D, m n = some (.row f e t xs) ∧ m' n = some (.row false e t xs)

theorem Froz.refl (m : Nat → Option Obj) : Froz m m := fun n => .inl rfl
theorem Froz.trans {m m' m'' : Nat → Option Obj} (h : Froz m m') (h' : Froz m' m'') : Froz m m'' := by
  intro n
  rcases h n with h1 | ⟨f, e, t, xs, h1, h2⟩
  · rcases h' n with h3 | ⟨f', e', t', ys, h3, h4⟩
    · exact .inl (h3.trans h1)
    · exact .inr ⟨f', e', t', ys, by rw [← h1]; exact h3, h4⟩
  · rcases h' n with h3 | ⟨f', e', t', ys, h3, h4⟩
    · exact .inr ⟨f, e, t, xs, h1, h3.trans h2⟩
    · rw [h2] at h3
      exact .inr ⟨f, e, t, xs, h1, by rw [h4]; injection h3 with h3; injection h3 with _ h3 h5 h6; subst h3; subst h5; have := eq_of_heq h6; subst this; rfl⟩

theorem Rel.frzL {m : Nat → Option Obj} : ∀ (ns : List Nat) {s : St} {a : Act} {w : World} {μ : Nat → Value} {Nm : Nat → Prop}, (Froz m s.mem) → Rel c s a w μ Nm →
    Rel c { s with mem := updL s.mem (frz m ns) } a w μ Nm ∧ (∀ k, stab c μ s.mem k → stab c μ (updL s.mem (frz m ns)) k) ∧ (∀ n ∈ ns, (∃ f e t xs, m n = some (.row f e t xs)) → liveN s.mem n = true → ∀ k, blk (μ n) = some k → stab c μ (updL s.mem (frz m ns)) k) ∧ Froz m (updL s.mem (frz m ns)) ∧ (∀ n, n ∉ ns → updL s.mem (frz m ns) n = s.mem n)
  | [], s, a, w, μ, Nm, hm, h => ⟨h, fun _ hk => hk, (fun n hn => absurd hn (by simp)), hm, fun _ _ => rfl⟩
  | n :: ns, s, a, w, μ, Nm, hm, h => by
    cases hmn : m n with
    | none =>
      have h1 : frz m (n :: ns) = frz m ns := by simp [frz, hmn]
      rw [h1]
      obtain ⟨g1, g2, g3, g4, g5⟩ := Rel.frzL ns hm h
      refine ⟨g1, g2, fun n' hn' hrow hl k hk => ?_, g4, fun n' hn' => g5 n' (fun h => hn' (List.mem_cons_of_mem _ h))⟩
      rcases List.mem_cons.1 hn' with rfl | hn'
      · rw [hmn] at hrow; obtain ⟨_, _, _, _, hrow⟩ := hrow; cases hrow
      · exact g3 n' hn' hrow hl k hk
    | some ob =>
      cases ob with
      | box T cs =>
        have h1 : frz m (n :: ns) = frz m ns := by simp [frz, hmn]
        rw [h1]
        obtain ⟨g1, g2, g3, g4, g5⟩ := Rel.frzL ns hm h
        refine ⟨g1, g2, fun n' hn' hrow hl k hk => ?_, g4, fun n' hn' => g5 n' (fun h => hn' (List.mem_cons_of_mem _ h))⟩
        rcases List.mem_cons.1 hn' with rfl | hn'
        · rw [hmn] at hrow; obtain ⟨_, _, _, _, hrow⟩ := hrow; cases hrow
        · exact g3 n' hn' hrow hl k hk
      | mp T ak tk av tv es =>
        have h1 : frz m (n :: ns) = frz m ns := by simp [frz, hmn]
        rw [h1]
        obtain ⟨g1, g2, g3, g4, g5⟩ := Rel.frzL ns hm h
        refine ⟨g1, g2, fun n' hn' hrow hl k hk => ?_, g4, fun n' hn' => g5 n' (fun h => hn' (List.mem_cons_of_mem _ h))⟩
        rcases List.mem_cons.1 hn' with rfl | hn'
        · rw [hmn] at hrow; obtain ⟨_, _, _, _, hrow⟩ := hrow; cases hrow
        · exact g3 n' hn' hrow hl k hk
      | row f e t xs =>
        have h1 : frz m (n :: ns) = (n, some (.row false e t xs)) :: frz m ns := by simp [frz, hmn]
        rw [h1]
        have hsn : ∃ f', s.mem n = some (.row f' e t xs) := by
          rcases hm n with h2 | ⟨f', e', t', ys, h2, h3⟩
          · exact ⟨f, h2.trans hmn⟩
          · rw [hmn] at h2
            injection h2 with h2; injection h2 with h4 h5 h6 h7
            subst h5; subst h6; have := eq_of_heq h7; subst this
            exact ⟨false, h3⟩
        obtain ⟨f', hsn⟩ := hsn
        obtain ⟨k1, k2, k3⟩ := h.frz1 hsn
        have hm2 : Froz m (upd1 s.mem n (some (.row false e t xs))) := by
          intro n'
          rw [upd1_get]
          by_cases en : n = n'
          · subst en; simp only [if_true]; exact .inr ⟨f, e, t, xs, hmn, rfl⟩
          · simp only [en, if_false]; exact hm n'
        obtain ⟨g1, g2, g3, g4, g5⟩ := Rel.frzL ns (s := { s with mem := upd1 s.mem n (some (.row false e t xs)) }) hm2 k1
        refine ⟨g1, fun k hk => g2 k (k2 k hk), fun n' hn' hrow hl k hk => ?_, g4, fun n' hn' => ?_⟩
        · by_cases en : n = n'
          · subst en
            refine g2 k (k3 ?_ k hk)
            simpa [liveN, hsn] using hl
          · rcases List.mem_cons.1 hn' with e' | hn'
            · exact absurd e'.symm en
            · exact g3 n' hn' hrow (by simpa [liveN, upd1_get, en] using hl) k hk
        · have e1 : n ≠ n' := fun e => hn' (by rw [e]; exact List.mem_cons_self)
          have := g5 n' (fun h => hn' (List.mem_cons_of_mem _ h))
          simp only [updL]
          rw [this]
          simp [upd1_get, e1]

theorem frz_agree {s' : St} {nm : List Nat} (hag : Agree o s s' nm) : ∀ {ns : List Nat}, (∀ n ∈ ns, n ∈ nm) → frz s.mem ns = frz s'.mem ns
  | [], _ => rfl
  | n :: ns, h => by
    simp only [frz]
    rw [hag.mem n (h n List.mem_cons_self), frz_agree hag (fun n' hn' => h n' (List.mem_cons_of_mem _ hn'))]

theorem FK_flat {w w' : World} {ok ok' : Nat → Prop} : ∀ (t : Ty), t.flat = true → ∀ (x : t.D) (cs : List Value), Kd.FK t.kd w ok x cs → Kd.FK t.kd w' ok' x cs
  | .unit, _, _, cs, h => (show cs = [] from h)
  | .int k, _, n, cs, h => (show cs = [.int k n] from h)
  | .bool, _, x, cs, h => (show cs = [.bool x] from h)
  | .str, _, x, cs, h => (show cs = [.string x] from h)
  | .sl _ _, hf, _, _, _ => by cases hf
  | .pair a b, hf, x, cs, h => by
    simp only [Ty.flat, Bool.and_eq_true] at hf
    obtain ⟨c0, c1, rfl, h0, h1⟩ := h
    exact FK_pair_mk (FK_flat a hf.1 _ _ h0) (FK_flat b hf.2 _ _ h1)

theorem N_flat {t : Ty} {e : TypeId} {w : World} {base : Nat} {ok ok' : Nat → Prop} {v : Value} {xs : List t.D} (hf : t.flat = true) (h : Kd.N t.kd e w base ok v xs) (ho : ∀ k, v.ownBlock = some k → ok' k) : Kd.N t.kd e w base ok' v xs := by
  obtain ⟨_, cs, hw, hr⟩ := h
  exact ⟨ho, cs, hw, hr.imp (fun x c => FK_flat t hf x c)⟩

/-- A row turns into another one, in the same block or in a new one. -/
theorem Rel.turn {s : St} {a : Act} {w w' : World} {μ : Nat → Value} {Nm : Nat → Prop} (h : Rel c s a w μ Nm) {x v : Value} {ns : List Nat} (hns : (ns = [] ∧ x.ownBlock = none) ∨ ∃ n e t, ∃ xs : List t.D, ns = [n] ∧ x = μ n ∧ s.mem n = some (.row true e t xs))
    (hg : w.grownBy w' x.ownBlock) (hat : v.ownBlock = x.ownBlock ∨ ∃ g, v.ownBlock = some g ∧ w.heap.size ≤ g) {e : TypeId} {t : Ty} {xs : List t.D} (hf : ¬ Nm b)
    (hN : Kd.N t.kd e w' 0 (fun k => (stab c μ s.mem k ∧ k < w.heap.size) ∨ w.heap.size ≤ k ∨ some k = v.ownBlock ∨ some k = x.ownBlock) v xs) :
    ∃ μ' Nm', Rel c { s with mem := upd1 (updL s.mem (delL ns)) b (some (.row true e t xs)) } a w' μ' Nm' ∧ Nm' b ∧ μ' b = v ∧ (∀ n, Nm' n → Nm n ∨ n = b) := by
  have hle : c.base ≤ w.heap.size := h.below.size
  have hne : ∀ n, Nm n → b ≠ n := fun n hn e => hf (e ▸ hn)
  -- the memory without the old row
  have hdel : ∀ n' o', updL s.mem (delL ns) n' = some o' → s.mem n' = some o' ∧ n' ∉ ns := by
    intro n' o' hn'
    rcases hns with ⟨rfl, _⟩ | ⟨n, e', t', ys, rfl, _, _⟩
    · exact ⟨hn', by simp⟩
    · simp only [delL, updL, upd1_get] at hn'
      by_cases en : n = n'
      · simp [en] at hn'
      · simp only [en, if_false] at hn'
        exact ⟨hn', by simp [Ne.symm en]⟩
  -- its block is no other object's, and does not stay
  have hxS : ∀ k, x.ownBlock = some k → ¬ stab c μ s.mem k := by
    intro k hk
    rcases hns with ⟨_, h1⟩ | ⟨n, e', t', ys, _, h1, h2⟩
    · rw [h1] at hk; cases hk
    · exact (h.stab_lt h2 rfl (by rw [← h1]; exact own_blk hk)).2.2
  have hxO : ∀ k, x.ownBlock = some k → ∀ n' o', s.mem n' = some o' → n' ∉ ns → o'.live = true → blk (μ n') ≠ some k := by
    intro k hk n' o' hn' hnot hl
    rcases hns with ⟨_, h1⟩ | ⟨n, e', t', ys, h0, h1, h2⟩
    · rw [h1] at hk; cases hk
    · exact h.dist n n' _ o' h2 hn' rfl hl (fun e => hnot (by rw [h0, e]; simp)) k (by rw [← h1]; exact own_blk hk)
  have hxB : ∀ k, x.ownBlock = some k → c.base ≤ k ∨ c.X k := by
    intro k hk
    rcases hns with ⟨_, h1⟩ | ⟨n, e', t', ys, h0, h1, h2⟩
    · rw [h1] at hk; cases hk
    · have ho := h.objs n _ h2
      simp only [ORel] at ho
      exact ho.2 k (by rw [← h1]; exact hk)
  have hvO : ∀ k, v.ownBlock = some k → ∀ n' o', s.mem n' = some o' → n' ∉ ns → o'.live = true → blk (μ n') ≠ some k := by
    intro k hk n' o' hn' hnot hl hbk
    rcases hat with h1 | ⟨g, h1, h2⟩
    · rw [h1] at hk; exact hxO k hk n' o' hn' hnot hl hbk
    · rw [h1] at hk; injection hk with hk; subst hk
      have := (h.stab_lt hn' hl hbk).2.1
      omega
  have hvS : ∀ k, v.ownBlock = some k → k < w.heap.size → ¬ stab c μ s.mem k := by
    intro k hk hlt
    rcases hat with h1 | ⟨g, h1, h2⟩
    · rw [h1] at hk; exact hxS k hk
    · rw [h1] at hk; injection hk with hk; omega
  have hblk : ∀ k, blk v = some k ↔ v.ownBlock = some k := V_blk hN
  have hμ : ∀ n, Nm n → (fun n => if b = n then v else μ n) n = μ n := fun n hn => by simp [hne n hn]
  have hS1 : ∀ k, stab c μ s.mem k → k < w.heap.size → stab c (fun n => if b = n then v else μ n) (upd1 (updL s.mem (delL ns)) b (some (.row true e t xs))) k := fun k hk hlt => ⟨hk.1, fun n o' hn hl hbk => by
    rw [upd1_get] at hn
    by_cases en : b = n
    · simp only [en, if_true] at hbk
      exact hvS k ((hblk k).1 hbk) hlt hk
    · simp only [en, if_false] at hn hbk
      exact hk.2 n o' (hdel n o' hn).1 hl hbk⟩
  refine ⟨fun n => if b = n then v else μ n, fun n => Nm n ∨ n = b, h.next (s' := { s with mem := upd1 (updL s.mem (delL ns)) b (some (.row true e t xs)) }) h.size h.defers (h.below.trans ⟨hg.os, hg.tape, hg.output, hg.size, fun k hk hx => hg.block k (by omega) (fun e' => ?_)⟩) (fun k hk hlt => hg.block k hlt (fun e' => hxS k e'.symm hk)) hS1 hμ (fun n hn => .inl hn) (fun n o' hn => ?_) (fun n1 n2 o1 o2 h1 h2 l1 l2 hne' k hk hk' => ?_) (fun x => .inl ⟨rfl, rfl⟩), .inr rfl, by simp, fun n hn => hn⟩
  · rcases hxB k e'.symm with h1 | h1
    · exact absurd hk (by omega)
    · exact hx h1
  · simp only [upd1_get] at hn
    by_cases en : b = n
    · simp only [en, if_true] at hn
      injection hn with hn; subst hn; subst en
      refine .inr ⟨.inr rfl, ?_⟩
      simp only [ORel, if_true]
      refine ⟨Kd.N_mono hN (fun k hk => ?_), fun k hk => ?_⟩
      rotate_left
      · rcases hat with h1 | ⟨g, h1, h2⟩
        · rw [h1] at hk; exact hxB k hk
        · rw [h1] at hk; injection hk with hk; subst hk; exact .inl (Nat.le_trans hle h2)
      rcases hk with hk | hk | hk | hk
      · exact .inl (hS1 k hk.1 hk.2)
      · by_cases ev : v.ownBlock = some k
        · exact .inr ev.symm
        · refine .inl ⟨.inr (.inl (Nat.le_trans hle hk)), fun n o' hn hl hbk => ?_⟩
          rw [upd1_get] at hn
          by_cases en : b = n
          · simp only [en, if_true] at hbk
            exact ev ((hblk k).1 hbk)
          · simp only [en, if_false] at hn hbk
            have := (h.stab_lt (hdel n o' hn).1 hl hbk).2.1
            omega
      · exact .inr hk
      · by_cases ev : v.ownBlock = some k
        · exact .inr ev.symm
        · refine .inl ⟨.inr (hxB k hk.symm), fun n o' hn hl hbk => ?_⟩
          rw [upd1_get] at hn
          by_cases en : b = n
          · simp only [en, if_true] at hbk
            exact ev ((hblk k).1 hbk)
          · simp only [en, if_false] at hn hbk
            obtain ⟨h1, h2⟩ := hdel n o' hn
            exact hxO k hk.symm n o' h1 h2 hl hbk
    · simp only [en, if_false] at hn
      obtain ⟨h1, h2⟩ := hdel n o' hn
      exact .inl ⟨h1, fun hl k hk => hg.block k (h.stab_lt h1 hl hk).2.1 (fun e' => hxO k e'.symm n o' h1 h2 hl hk)⟩
  · simp only [upd1_get] at h1 h2
    by_cases e1 : b = n1
    · simp only [e1, if_true] at hk
      by_cases e2 : b = n2
      · exact hne' (e1.symm.trans e2)
      · simp only [e2, if_false] at h2 hk'
        obtain ⟨g1, g2⟩ := hdel n2 o2 h2
        exact hvO k ((hblk k).1 hk) n2 o2 g1 g2 l2 hk'
    · simp only [e1, if_false] at h1 hk
      obtain ⟨g1, g2⟩ := hdel n1 o1 h1
      by_cases e2 : b = n2
      · simp only [e2, if_true] at hk'
        exact hvO k ((hblk k).1 hk') n1 o1 g1 g2 l1 hk
      · simp only [e2, if_false] at h2 hk'
        obtain ⟨g3, g4⟩ := hdel n2 o2 h2
        exact h.dist n1 n2 o1 o2 g1 g3 l1 l2 hne' k hk hk'
end
end Go.Proofs.Ytinopkpnlibopaa.Ab
