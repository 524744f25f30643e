import Derived.Test.YtinopkpnlibopaaAbGrab
/- Calls. -/
set_option linter.unusedVariables false
set_option linter.unusedSimpArgs false
namespace Go.Proofs.Ytinopkpnlibopaa.Ab
open Go.RowKit

section
variable {P : Program} {E : Env} {c : Ctx} {o : Oper} {s : St} {b : Nat} {R : Type} {κ : Eff → Option R} {r : R}

theorem updL_loc {n : Nat} : ∀ (us : List (Nat × Option Obj)) {m m' : Nat → Option Obj}, m n = m' n → updL m us n = updL m' us n
  | [], _, _, h => h
  | (i, o) :: us, m, m', h => by
    simp only [updL]
    refine updL_loc us ?_
    rw [upd1_get, upd1_get]
    split <;> first | rfl | exact h

theorem updL_none {n : Nat} : ∀ (us : List (Nat × Option Obj)) {m : Nat → Option Obj}, (∀ p ∈ us, p.1 ≠ n) → updL m us n = m n
  | [], _, _ => rfl
  | (i, o) :: us, m, h => by
    simp only [updL]
    rw [updL_none us (fun p hp => h p (List.mem_cons_of_mem _ hp)), upd1_get, if_neg (h (i, o) List.mem_cons_self)]

theorem impC_names (own : Bool) : ∀ (t : Ty) (x : t.D) (b : Nat), b ≤ (impC own t x b).2.2 ∧ ∀ p ∈ (impC own t x b).2.1, b ≤ p.1 ∧ p.1 < (impC own t x b).2.2
  | .unit, x, b => by simp [impC]
  | .int k, x, b => by simp [impC]
  | .bool, x, b => by simp [impC]
  | .str, x, b => by simp [impC]
  | .sl e t, x, b => by cases own <;> simp [impC]
  | .pair t1 t2, x, b => by
    have h1 := impC_names own t1 x.1 b
    have h2 := impC_names own t2 x.2 (impC own t1 x.1 b).2.2
    simp only [impC]
    refine ⟨Nat.le_trans h1.1 h2.1, fun p hp => ?_⟩
    rcases List.mem_append.1 hp with hp | hp
    · exact ⟨(h1.2 p hp).1, Nat.lt_of_lt_of_le (h1.2 p hp).2 h2.1⟩
    · exact ⟨Nat.le_trans h1.1 (h2.2 p hp).1, (h2.2 p hp).2⟩

mutual
theorem lay_names : ∀ (p : PV) (x : p.D) (b : Nat), b ≤ (lay p x b).2.2 ∧ ∀ q ∈ (lay p x b).2.1, b ≤ q.1 ∧ q.1 < (lay p x b).2.2
  | .cell t, x, b => by simp [lay]
  | .own e t, x, b => by simp [lay]
  | .box T cs, x, b => by
    have h := lays_names cs x (b + 1)
    simp only [lay]
    refine ⟨Nat.le_trans (Nat.le_succ b) h.1, fun q hq => ?_⟩
    rcases List.mem_cons.1 hq with rfl | hq
    · exact ⟨Nat.le_refl _, h.1⟩
    · exact ⟨Nat.le_trans (Nat.le_succ b) (h.2 q hq).1, (h.2 q hq).2⟩
  | .agg cs, x, b => by simp only [lay]; exact lays_names cs x b
  | .nil, x, b => by simp [lay]
  | .pin row j, x, b => by simp [lay]
  | .ref t, x, b => by simp [lay]
  | .clo g cs, x, b => by simp only [lay]; exact lays_names cs x b
  | .mp T ak tk av tv, x, b => by simp [lay]
theorem lays_names : ∀ (ps : List PV) (x : PVs ps) (b : Nat), b ≤ (lays ps x b).2.2 ∧ ∀ q ∈ (lays ps x b).2.1, b ≤ q.1 ∧ q.1 < (lays ps x b).2.2
  | [], x, b => by simp [lays]
  | p :: ps, x, b => by
    have h1 := lay_names p x.1 b
    have h2 := lays_names ps x.2 (lay p x.1 b).2.2
    simp only [lays]
    refine ⟨Nat.le_trans h1.1 h2.1, fun q hq => ?_⟩
    rcases List.mem_append.1 hq with hq | hq
    · exact ⟨(h1.2 q hq).1, Nat.lt_of_lt_of_le (h1.2 q hq).2 h2.1⟩
    · exact ⟨Nat.le_trans h1.1 (h2.2 q hq).1, (h2.2 q hq).2⟩
end

theorem impR_names : ∀ (rs : List RT) (x : RD rs) (b : Nat), b ≤ (impR rs x b).2.2 ∧ ∀ p ∈ (impR rs x b).2.1, b ≤ p.1 ∧ p.1 < (impR rs x b).2.2
  | [], x, b => by simp [impR]
  | .val v :: rs, x, b => by
    have h1 := impC_names v.own v.t x.1 b
    have h2 := impR_names rs x.2 (impC v.own v.t x.1 b).2.2
    simp only [impR]
    refine ⟨Nat.le_trans h1.1 h2.1, fun p hp => ?_⟩
    rcases List.mem_append.1 hp with hp | hp
    · exact ⟨(h1.2 p hp).1, Nat.lt_of_lt_of_le (h1.2 p hp).2 h2.1⟩
    · exact ⟨Nat.le_trans h1.1 (h2.2 p hp).1, (h2.2 p hp).2⟩
  | .pv q :: rs, x, b => by
    have h1 := lay_names q x.1 b
    have h2 := impR_names rs x.2 (lay q x.1 b).2.2
    simp only [impR]
    refine ⟨Nat.le_trans h1.1 h2.1, fun p hp => ?_⟩
    rcases List.mem_append.1 hp with hp | hp
    · exact ⟨(h1.2 p hp).1, Nat.lt_of_lt_of_le (h1.2 p hp).2 h2.1⟩
    · exact ⟨Nat.le_trans h1.1 (h2.2 p hp).1, (h2.2 p hp).2⟩

theorem outP_names : ∀ (ps : List PT) (o : MD ps) (pn : Nat → Nat) (j b : Nat), b ≤ (outP ps o pn j b).2 ∧ ∀ p ∈ (outP ps o pn j b).1, (∃ i, i < pinsN ps ∧ p.1 = pn (j + i)) ∨ (b ≤ p.1 ∧ p.1 < (outP ps o pn j b).2)
  | [], o, pn, j, b => by simp [outP]
  | .val v :: ps, o, pn, j, b => by simp only [outP, pinsN]; exact outP_names ps o pn j b
  | .pv v :: ps, o, pn, j, b => by simp only [outP, pinsN]; exact outP_names ps o pn j b
  | .gv v :: ps, o, pn, j, b => by simp only [outP, pinsN]; exact outP_names ps o pn j b
  | .give e t :: ps, o, pn, j, b => by
    have h := outP_names ps o pn (j + 1) b
    simp only [outP, pinsN]
    refine ⟨h.1, fun p hp => ?_⟩
    rcases List.mem_cons.1 hp with rfl | hp
    · exact .inl ⟨0, by omega, rfl⟩
    · rcases h.2 p hp with ⟨i, h1, h2⟩ | h2
      · exact .inl ⟨i + 1, by omega, by rw [h2]; congr 1; omega⟩
      · exact .inr h2
  | .mrow e t :: ps, o, pn, j, b => by
    have h := outP_names ps o.2 pn (j + 1) b
    simp only [outP, pinsN]
    refine ⟨h.1, fun p hp => ?_⟩
    rcases List.mem_cons.1 hp with rfl | hp
    · exact .inl ⟨0, by omega, rfl⟩
    · rcases h.2 p hp with ⟨i, h1, h2⟩ | h2
      · exact .inl ⟨i + 1, by omega, by rw [h2]; congr 1; omega⟩
      · exact .inr h2
  | .mbox T cs :: ps, o, pn, j, b => by
    have h0 := lays_names cs o.1 b
    have h := outP_names ps o.2 pn (j + 1) (lays cs o.1 b).2.2
    simp only [outP, pinsN]
    refine ⟨Nat.le_trans h0.1 h.1, fun p hp => ?_⟩
    rcases List.mem_cons.1 hp with rfl | hp
    · exact .inl ⟨0, by omega, rfl⟩
    · rcases List.mem_append.1 hp with hp | hp
      · exact .inr ⟨(h0.2 p hp).1, Nat.lt_of_lt_of_le (h0.2 p hp).2 h.1⟩
      · rcases h.2 p hp with ⟨i, h1, h2⟩ | h2
        · exact .inl ⟨i + 1, by omega, by rw [h2]; congr 1; omega⟩
        · exact .inr ⟨Nat.le_trans h0.1 h2.1, h2.2⟩

theorem outU_names (ps : List PT) (rs : List RT) (q : RD rs × MD ps) (pn : Nat → Nat) (b : Nat) : b ≤ outB ps rs q pn b ∧ ∀ p ∈ outU ps rs q pn b, (∃ i, i < pinsN ps ∧ p.1 = pn i) ∨ (b ≤ p.1 ∧ p.1 < outB ps rs q pn b) := by
  have h1 := impR_names rs q.1 b
  have h2 := outP_names ps q.2 pn 0 (impR rs q.1 b).2.2
  unfold outB outU
  refine ⟨Nat.le_trans h1.1 h2.1, fun p hp => ?_⟩
  rcases List.mem_append.1 hp with hp | hp
  · exact .inr ⟨(h1.2 p hp).1, Nat.lt_of_lt_of_le (h1.2 p hp).2 h2.1⟩
  · rcases h2.2 p hp with ⟨i, h3, h4⟩ | h3
    · exact .inl ⟨i, h3, by rw [h4, Nat.zero_add]⟩
    · exact .inr ⟨Nat.le_trans h1.1 h3.1, h3.2⟩

/-- An object in another frame. -/
theorem ORel_ctx {c1 c2 : Ctx} {μ μ' : Nat → Value} {Nm Nm' S S' : Nat → Prop} {w : World} (n : Nat) (o : Obj) (hX : o.live = true → ∀ k, blk (μ n) = some k → c2.base ≤ k ∨ c2.X k) (hS : ∀ k, S k → S' k) (hμ : ∀ n, Nm n → μ' n = μ n) (hN : ∀ n, Nm n → Nm' n) (hn : Nm n) (h : ORel c1 μ Nm S w n o) : ORel c2 μ' Nm' S' w n o := by
  cases o with
  | row f e t xs =>
    cases f with
    | true =>
      simp only [ORel] at h ⊢
      rw [hμ n hn]
      exact ⟨Kd.N_mono h.1 (fun k hk => hk.imp (hS k) id), fun k hk => hX rfl k (own_blk hk)⟩
    | false =>
      simp only [ORel] at h ⊢
      rw [hμ n hn]
      exact Kd.V_mono h hS
  | box T cs =>
    simp only [ORel] at h ⊢
    obtain ⟨g, vs, h1, h2, h3, h4⟩ := h
    exact ⟨g, vs, by rw [hμ n hn]; exact h1, hX rfl g (by rw [h1]; rfl), h3, VRels_step (fun _ _ _ => rfl) (fun k h _ => hS k h) hμ hN cs vs.toList h4⟩
  | mp T ak tk av tv es =>
    simp only [ORel] at h ⊢
    obtain ⟨g, l, clk, h1, h2, h3, h4⟩ := h
    exact ⟨g, l, clk, by rw [hμ n hn]; exact h1, hX rfl g (by rw [h1]; rfl), h3, ents_step (fun _ _ _ => rfl) (fun k h _ => hS k h) h4⟩

theorem ORel_live_blk {c1 : Ctx} {μ : Nat → Value} {Nm S : Nat → Prop} {w : World} {n : Nat} {o : Obj} (h : ORel c1 μ Nm S w n o) (hl : o.live = true) {k : Nat} (hk : blk (μ n) = some k) : c1.base ≤ k ∨ c1.X k := by
  cases o with
  | row f e t xs =>
    cases f with
    | true =>
      simp only [ORel] at h
      exact h.2 k ((V_blk h.1 k).1 hk)
    | false => cases hl
  | box T cs =>
    simp only [ORel] at h
    obtain ⟨g, vs, h1, h2, h3, h4⟩ := h
    rw [h1] at hk
    simp [blk] at hk
    subst hk
    exact h2
  | mp T ak tk av tv es =>
    simp only [ORel] at h
    obtain ⟨g, l, clk, h1, h2, h3, h4⟩ := h
    rw [h1] at hk
    simp [blk] at hk
    subst hk
    exact h2

theorem ownOf_own {m : Nat → Option Obj} {e : TypeId} {t : Ty} {n : Nat} {xs : List t.D} {l : List Nat} (h : ownOf m e t (.own n) = some (xs, l)) : m n = some (.row true e t xs) := by
  simp only [ownOf] at h
  split at h
  · rename_i e' t' ys hn
    split at h
    · rename_i he
      have := Nat.eq_of_beq_eq_true he; subst this
      split at h
      · rename_i zs hc
        injection h with h; injection h with h1 h2; subst h1
        obtain ⟨rfl, rfl⟩ := castL_eq hc
        exact hn
      · cases h
    · cases h
  · cases h

theorem run_callFunc' {f : FuncId} {fn : Func} (hf : P.funcs[f]? = some fn) (h1 : (fn.name == "runtime.NumGoroutine") = false) (h2 : fn.body.isNone = false) (args : Array Value) (w : World) : (callFunc f args).run P w = .ok (.enter f args) w := by
  simp only [callFunc, Sem.run_bind, program, Sem.run, hf, Result.andThen_ok, h1, h2, Bool.false_eq_true, if_false]
  rfl


theorem argsP_ent {m : Nat → Option Obj} {μ μ' : Nat → Value} {Nm Nm' S S' : Nat → Prop} {w : World} (hm : ∀ n o, m n = some o → ORel c μ Nm S w n o) (hS : ∀ k, S k → S' k) : ∀ (ps : List PT) (xs : List AV) (ys : List Value) (x : AD ps) (ns pn is : List Nat) (j b : Nat), argsP m ps xs = some (x, ns, pn, is) → VRels μ Nm S w xs ys → (∀ k, withB μ m S ns k → S' k) →
    (∀ i, i < pn.length → μ' (j + i) = μ (nthN pn i) ∧ Nm' (j + i)) → (∀ i, i < is.length → μ' (b + i) = μ (nthN is i) ∧ Nm' (b + i)) →
    VRels μ' Nm' S' w (inP ps x j b).1 ys ∧ (inP ps x j b).2.2 = b + is.length ∧ pn.length = pinsN ps ∧
      (∀ q ∈ (inP ps x j b).2.1, ∃ i o, o.live = true ∧ ((i < pn.length ∧ q = (j + i, some o) ∧ ORel c μ' Nm' S' w (j + i) o) ∨ (i < is.length ∧ q = (b + i, some o) ∧ ORel c μ' Nm' S' w (b + i) o))) ∧
      (∀ n ∈ pn ++ is, ∃ o, m n = some o ∧ o.live = true) ∧ ∀ n ∈ ns, ∃ o, m n = some o
  | [], xs, ys, x, ns, pn, is, j, b, h, hv, hB, hp, hi => by
    cases xs with
    | cons _ _ => simp [argsP] at h
    | nil =>
      simp only [argsP] at h
      injection h with h; injection h with h1 h2; injection h2 with h2 h3; injection h3 with h3 h4
      subst h2; subst h3; subst h4
      have := VRels_nil hv; subst this
      exact ⟨by simp only [inP, VRels], rfl, rfl, by simp [inP], by simp, by simp⟩
  | p :: ps, xs, ys, x, ns, pn, is, j, b, h, hv, hB, hp, hi => by
    cases xs with
    | nil => simp [argsP] at h
    | cons a xs =>
      cases ys with
      | nil => simp only [VRels] at hv
      | cons y ys =>
        simp only [VRels] at hv
        simp only [argsP] at h
        split at h
        · rename_i d1 ns1 pn1 is1 h1
          split at h
          · rename_i d2 ns2 pn2 is2 h2
            injection h with h; injection h with e1 e2; injection e2 with e2 e3; injection e3 with e3 e4
            subst e1; subst e2; subst e3; subst e4
            have rest := fun j' b' hp' hi' => argsP_ent (μ' := μ') (Nm' := Nm') hm hS ps xs ys d2 ns2 pn2 is2 j' b' h2 hv.2 (fun k hk => hB k (withB_right hk)) hp' hi'
            cases p with
            | val v =>
              simp only [arg1P] at h1
              cases hpk : packA m v a with
              | none => rw [hpk] at h1; cases h1
              | some dn =>
                obtain ⟨d, n1⟩ := dn
                rw [hpk] at h1
                injection h1 with h1; injection h1 with q1 q2; injection q2 with q2 q3; injection q3 with q3 q4
                subst q1; subst q2; subst q3; subst q4
                simp only [List.nil_append] at hp hi ⊢
                obtain ⟨g1, g2, g3, g4, g5, g6⟩ := rest j b hp hi
                simp only [inP, pinsN]
                refine ⟨?_, g2, g3, g4, g5, fun n hn => ?_⟩
                · simp only [VRels]
                  exact ⟨VRel_step (fun _ _ _ => rfl) (fun k hk _ => hB k (withB_left hk)) (fun _ h => h.elim) (fun _ h => h.elim) _ _ (packA_rel hm hpk hv.1), g1⟩
                · rcases List.mem_append.1 hn with hn | hn
                  · obtain ⟨_, _, _, _, hh⟩ := packA_mem hpk n hn; exact ⟨_, hh⟩
                  · exact g6 n hn
            | pv q =>
              simp only [arg1P] at h1
              cases hpk : packP m q a with
              | none => rw [hpk] at h1; cases h1
              | some dn =>
                obtain ⟨d, n1⟩ := dn
                rw [hpk] at h1
                injection h1 with h1; injection h1 with q1 q2; injection q2 with q2 q3; injection q3 with q3 q4
                subst q1; subst q2; subst q3; subst q4
                simp only [List.nil_append] at hp hi ⊢
                obtain ⟨l1, l2, l3⟩ := packP_rel (μ' := μ') (Nm' := Nm') hm q a y d n1 b hpk hv.1
                obtain ⟨g1, g2, g3, g4, g5, g6⟩ := rest j b hp hi
                simp only [inP, pinsN]
                rw [l3, l2]
                refine ⟨?_, g2, g3, by simpa using g4, g5, fun n hn => ?_⟩
                · simp only [VRels]
                  exact ⟨VRel_step (fun _ _ _ => rfl) (fun k hk _ => hB k (withB_left hk)) (fun _ _ => rfl) (fun _ h => h) _ _ l1, g1⟩
                · rcases List.mem_append.1 hn with hn | hn
                  · exact packP_mem q a d n1 hpk n hn
                  · exact g6 n hn
            | gv p =>
              simp only [arg1P] at h1
              split at h1
              · rename_i d is' hg
                injection h1 with h1; injection h1 with q1 q2; injection q2 with q2 q3; injection q3 with q3 q4
                subst q1; subst q2; subst q3; subst q4
                simp only [List.nil_append] at hp
                obtain ⟨m1, m2, m3, m4⟩ := grab_rel (z := false) (np := 0) (μ' := μ') (Nm' := Nm') (S' := S') hm (fun j hj => absurd hj (by omega)) p a y d is' b (.inr hS) hg hv.1 (fun i hlt => by rw [(hi i (by simp; omega)).1, nthN_l hlt]) (fun i hlt => (hi i (by simp; omega)).2)
                obtain ⟨g1, g2, g3, g4, g5, g6⟩ := rest j (b + is'.length) hp (fun i hlt => by
                  have := hi (is'.length + i) (by simp; omega)
                  rw [show b + is'.length + i = b + (is'.length + i) by omega]; rw [nthN_r] at this; exact this)
                simp only [inP, pinsN]
                rw [m2]
                refine ⟨?_, by rw [g2]; simp; omega, by simpa using g3, fun q hq => ?_, fun n' hn' => ?_, by simpa using g6⟩
                · simp only [VRels]; exact ⟨m1, g1⟩
                · rcases List.mem_append.1 hq with hq | hq
                  · obtain ⟨o, i, a1, a2, a3, a4⟩ := m3 q hq
                    exact ⟨i, o, a3, .inr ⟨by simp; omega, a2, a4⟩⟩
                  · obtain ⟨i, o, a1, a2⟩ := g4 q hq
                    rcases a2 with ⟨a2, a3, a4⟩ | ⟨a2, a3, a4⟩
                    · exact ⟨i, o, a1, .inl ⟨by simpa using a2, a3, a4⟩⟩
                    · refine ⟨is'.length + i, o, a1, .inr ⟨by simp; omega, by rw [a3, show b + is'.length + i = b + (is'.length + i) by omega], ?_⟩⟩
                      rw [show b + (is'.length + i) = b + is'.length + i by omega]; exact a4
                · simp only [List.mem_append, List.nil_append] at hn'
                  rcases hn' with hn' | hn' | hn'
                  · exact g5 n' (List.mem_append_left _ hn')
                  · exact m4 n' hn'
                  · exact g5 n' (List.mem_append_right _ hn')
              · cases h1
            | mbox T cs =>
              simp only [arg1P] at h1
              split at h1
              · rename_i n
                split at h1
                · rename_i U zs hmn
                  split at h1
                  · rename_i hT
                    have := Nat.eq_of_beq_eq_true hT; subst this
                    split at h1
                    · rename_i d is' hg
                      injection h1 with h1; injection h1 with q1 q2; injection q2 with q2 q3; injection q3 with q3 q4
                      subst q1; subst q2; subst q3; subst q4
                      have hob := hm n _ hmn
                      simp only [ORel] at hob
                      obtain ⟨g, vs, k1, k2, k3, k4⟩ := hob
                      have hj := hp 0 (by simp)
                      simp only [Nat.add_zero, List.cons_append, nthN] at hj
                      obtain ⟨m1, m2, m3, m4⟩ := grabs_rel (z := false) (np := 0) (μ' := μ') (Nm' := Nm') (S' := S') hm (fun j hj => absurd hj (by omega)) cs zs vs.toList d is' b (.inr hS) hg k4 (fun i hlt => by rw [(hi i (by simp; omega)).1, nthN_l hlt]) (fun i hlt => (hi i (by simp; omega)).2)
                      obtain ⟨g1, g2, g3, g4, g5, g6⟩   := rest (j + 1) (b + is'.length) (fun i hlt => by
                        have := hp (i + 1) (by simp; omega)
                        rw [show j + 1 + i = j + (i + 1) by omega]; simpa [nthN] using this) (fun i hlt => by
                        have := hi (is'.length + i) (by simp; omega)
                        rw [show b + is'.length + i = b + (is'.length + i) by omega]; rw [nthN_r] at this; exact this)
                      simp only [inP, pinsN]
                      rw [m2]
                      refine ⟨?_, by rw [g2]; simp; omega, by simp; omega, fun q hq => ?_, fun n' hn' => ?_, by simpa using g6⟩
                      · simp only [VRels, VRel]
                        have hv1 := hv.1
                        simp only [VRel] at hv1
                        exact ⟨⟨hj.2, by rw [hj.1]; exact hv1.2⟩, g1⟩
                      · rcases List.mem_cons.1 hq with rfl | hq
                        · refine ⟨0, _, rfl, .inl ⟨by simp, rfl, ?_⟩⟩
                          simp only [ORel, Nat.add_zero]
                          exact ⟨g, vs, by rw [hj.1]; exact k1, k2, k3, m1⟩
                        · rcases List.mem_append.1 hq with hq | hq
                          · obtain ⟨o, i, a1, a2, a3, a4⟩ := m3 q hq
                            exact ⟨i, o, a3, .inr ⟨by simp; omega, a2, a4⟩⟩
                          · obtain ⟨i, o, a1, a2⟩ := g4 q hq
                            rcases a2 with ⟨a2, a3, a4⟩ | ⟨a2, a3, a4⟩
                            · refine ⟨i + 1, o, a1, .inl ⟨by simp; omega, by rw [a3, show j + 1 + i = j + (i + 1) by omega], ?_⟩⟩
                              rw [show j + (i + 1) = j + 1 + i by omega]; exact a4
                            · refine ⟨is'.length + i, o, a1, .inr ⟨by simp; omega, by rw [a3, show b + is'.length + i = b + (is'.length + i) by omega], ?_⟩⟩
                              rw [show b + (is'.length + i) = b + is'.length + i by omega]; exact a4
                      · simp only [List.mem_append, List.mem_cons, List.not_mem_nil, or_false] at hn'
                        rcases hn' with (hn' | hn') | hn' | hn'
                        · subst hn'; exact ⟨_, hmn, rfl⟩
                        · exact g5 n' (List.mem_append_left _ hn')
                        · exact m4 n' hn'
                        · exact g5 n' (List.mem_append_right _ hn')
                    · cases h1
                  · cases h1
                · cases h1
              · cases h1
            | mrow e t =>
              simp only [arg1P] at h1
              split at h1
              · rename_i n
                split at h1
                · rename_i d _ ho
                  injection h1 with h1; injection h1 with q1 q2; injection q2 with q2 q3; injection q3 with q3 q4
                  subst q1; subst q2; subst q3; subst q4
                  have hmn := ownOf_own ho
                  have hob := hm n _ hmn
                  simp only [ORel] at hob
                  have hj := hp 0 (by simp)
                  simp only [Nat.add_zero, List.cons_append, nthN] at hj
                  simp only [List.nil_append] at hi
                  obtain ⟨g1, g2, g3, g4, g5, g6⟩   := rest (j + 1) b (fun i hlt => by
                    have := hp (i + 1) (by simp; omega)
                    rw [show j + 1 + i = j + (i + 1) by omega]; simpa [nthN] using this) hi
                  simp only [inP, pinsN]
                  refine ⟨?_, by rw [g2]; simp, by simp; omega, fun q hq => ?_, fun n' hn' => ?_, by simpa using g6⟩
                  · simp only [VRels, VRel]
                    have hv1 := hv.1
                    simp only [VRel] at hv1
                    exact ⟨⟨hj.2, by rw [hj.1]; exact hv1.2.1, hv1.2.2⟩, g1⟩
                  · rcases List.mem_cons.1 hq with rfl | hq
                    · refine ⟨0, _, rfl, .inl ⟨by simp, rfl, ?_⟩⟩
                      simp only [ORel, Nat.add_zero]
                      rw [hj.1]
                      exact NX_turn (.inr hS) hob
                    · obtain ⟨i, o, a1, a2⟩ := g4 q hq
                      rcases a2 with ⟨a2, a3, a4⟩ | ⟨a2, a3, a4⟩
                      · refine ⟨i + 1, o, a1, .inl ⟨by simp; omega, by rw [a3, show j + 1 + i = j + (i + 1) by omega], ?_⟩⟩
                        rw [show j + (i + 1) = j + 1 + i by omega]; exact a4
                      · exact ⟨i, o, a1, .inr ⟨by simpa using a2, a3, a4⟩⟩
                  · simp only [List.mem_append, List.mem_cons, List.not_mem_nil, or_false, List.nil_append] at hn'
                    rcases hn' with (hn' | hn') | hn'
                    · subst hn'; exact ⟨_, hmn, rfl⟩
                    · exact g5 n' (List.mem_append_left _ hn')
                    · exact g5 n' (List.mem_append_right _ (by simpa using hn'))
                · cases h1
              · cases h1
            | give e t =>
              simp only [arg1P] at h1
              split at h1
              · rename_i n
                split at h1
                · rename_i d _ ho
                  injection h1 with h1; injection h1 with q1 q2; injection q2 with q2 q3; injection q3 with q3 q4
                  subst q1; subst q2; subst q3; subst q4
                  have hmn := ownOf_own ho
                  have hob := hm n _ hmn
                  simp only [ORel] at hob
                  have hj := hp 0 (by simp)
                  simp only [Nat.add_zero, List.cons_append, nthN] at hj
                  simp only [List.nil_append] at hi
                  obtain ⟨g1, g2, g3, g4, g5, g6⟩   := rest (j + 1) b (fun i hlt => by
                    have := hp (i + 1) (by simp; omega)
                    rw [show j + 1 + i = j + (i + 1) by omega]; simpa [nthN] using this) hi
                  simp only [inP, pinsN]
                  refine ⟨?_, by rw [g2]; simp, by simp; omega, fun q hq => ?_, fun n' hn' => ?_, by simpa using g6⟩
                  · simp only [VRels, VRel]
                    have hv1 := hv.1
                    simp only [VRel] at hv1
                    exact ⟨⟨hj.2, by rw [hj.1]; exact hv1.2.1, hv1.2.2⟩, g1⟩
                  · rcases List.mem_cons.1 hq with rfl | hq
                    · refine ⟨0, _, rfl, .inl ⟨by simp, rfl, ?_⟩⟩
                      simp only [ORel, Nat.add_zero]
                      rw [hj.1]
                      exact NX_turn (.inr hS) hob
                    · obtain ⟨i, o, a1, a2⟩ := g4 q hq
                      rcases a2 with ⟨a2, a3, a4⟩ | ⟨a2, a3, a4⟩
                      · refine ⟨i + 1, o, a1, .inl ⟨by simp; omega, by rw [a3, show j + 1 + i = j + (i + 1) by omega], ?_⟩⟩
                        rw [show j + (i + 1) = j + 1 + i by omega]; exact a4
                      · exact ⟨i, o, a1, .inr ⟨by simpa using a2, a3, a4⟩⟩
                  · simp only [List.mem_append, List.mem_cons, List.not_mem_nil, or_false, List.nil_append] at hn'
                    rcases hn' with (hn' | hn') | hn'
                    · subst hn'; exact ⟨_, hmn, rfl⟩
                    · exact g5 n' (List.mem_append_left _ hn')
                    · exact g5 n' (List.mem_append_right _ (by simpa using hn'))
                · cases h1
              · cases h1
          · cases h
        · cases h
end
end Go.Proofs.Ytinopkpnlibopaa.Ab
