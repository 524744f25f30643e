import Derived.Test.YtinopkpnlibopaaAbMaps
/- Shapes: what lives on is taken up anew, under new names. -/
set_option linter.unusedVariables false
set_option linter.unusedSimpArgs false
namespace Go.Proofs.Ytinopkpnlibopaa.Ab
open Go.RowKit

section
variable {P : Program} {E : Env} {c : Ctx} {R : Type} {r : R}
variable {m : Nat → Option Obj} {μ μ' : Nat → Value} {Nm Nm' S S' : Nat → Prop} {w : World} {np : Nat} {z : Bool}

theorem nthN_l : ∀ {l l' : List Nat} {i : Nat}, i < l.length → nthN (l ++ l') i = nthN l i
  | [], _, _, h => by simp at h
  | _ :: _, _, 0, _ => rfl
  | _ :: l, l', i + 1, h => by simp only [List.cons_append, nthN]; exact nthN_l (by simpa using h)
theorem nthN_r : ∀ {l l' : List Nat} {i : Nat}, nthN (l ++ l') (l.length + i) = nthN l' i
  | [], _, _ => by simp
  | _ :: l, l', i => by
    rw [show (_ :: l : List Nat).length + i = (l.length + i) + 1 by simp; omega]
    simp only [List.cons_append, nthN]
    exact nthN_r
theorem nthN_e : ∀ {l : List Nat} {i : Nat} (h : i < l.length), nthN l i = l[i]
  | [], _, h => by simp at h
  | _ :: _, 0, _ => rfl
  | _ :: l, i + 1, h => by simp only [nthN, List.getElem_cons_succ]; exact nthN_e (by simpa using h)

theorem castM_eq {k k' v v' : Ty} {xs : List (k.D × v.D)} {ys : List (k'.D × v'.D)} (h : castM k k' v v' xs = some ys) : ∃ (e : k = k') (e' : v = v'), ys = e ▸ e' ▸ xs := by
  unfold castM at h
  split at h
  · rename_i h1 h2
    injection h with h
    exact ⟨Ty.beq_eq h1, Ty.beq_eq h2, h.symm⟩
  · cases h

theorem ents_flat {w w' : World} {S S' : Nat → Prop} {ak av : Bool} {tk tv : Ty} (hf : tv.flat = true) : ∀ {es : List (tk.D × tv.D)} {l : List MapEntry}, ents S w ak tk av tv es l → ents S' w' ak tk av tv es l
  | [], [], _ => trivial
  | [], _ :: _, h => h
  | _ :: _, [], h => h
  | x :: xs, e :: l, h => by
    simp only [ents] at h ⊢
    obtain ⟨⟨h1, cs, h2, h3, h4⟩, h5⟩ := h
    exact ⟨⟨h1, cs, h2, h3, FK_flat tv hf _ _ h4⟩, ents_flat hf h5⟩

theorem NX_turn {c : Ctx} {t : Ty} {e : TypeId} {w : World} {S S' : Nat → Prop} {v : Value} {xs : List t.D} (hS : t.flat = true ∨ ∀ k, S k → S' k) (h : NX c e w (fun k => S k ∨ some k = v.ownBlock) v xs) : NX c e w (fun k => S' k ∨ some k = v.ownBlock) v xs := by
  refine ⟨?_, h.2⟩
  rcases hS with hS | hS
  · exact N_flat hS h.1 (fun k hk => .inr hk.symm)
  · exact Kd.N_mono h.1 (fun k hk => hk.imp (hS k) id)

theorem deadB_mem : ∀ {ns : List Nat}, deadB m ns = true → ∀ n ∈ ns, liveN m n = false
  | n :: ns, h, n', hn' => by
    simp only [deadB] at h
    split at h
    · cases h
    · rename_i e
      rcases List.mem_cons.1 hn' with rfl | hn'
      · exact e
      · exact deadB_mem h n' hn'
theorem softB_dead {z : Bool} : ∀ {ns : List Nat}, softB z m ns = true → deadB m ns = true
  | [], _ => rfl
  | n :: ns, h => by cases z <;> simp only [softB] at h <;> first | exact h | cases h
theorem withB_soft {z : Bool} {ns : List Nat} (h : softB z m ns = true) {k : Nat} (hk : withB μ m S ns k) : S k := by
  rcases hk with hk | ⟨n, hn, hl, _⟩
  · exact hk
  · rw [deadB_mem (softB_dead h) n hn] at hl; cases hl

mutual
theorem grab_rel (hm : ∀ n o, m n = some o → ORel c μ Nm S w n o) (hpin : ∀ j, j < np → Nm' j ∧ μ' j = μ j) : ∀ (p : PV) (v : AV) (x : Value) (d : p.D) (ns : List Nat) (b : Nat), (flatPV p = true ∨ ∀ k, S k → S' k) → grab z m np p v = some (d, ns) → VRel μ Nm S w v x → (∀ i, i < ns.length → μ' (b + i) = μ (nthN ns i)) → (∀ i, i < ns.length → Nm' (b + i)) →
    VRel μ' Nm' S' w (lay p d b).1 x ∧ (lay p d b).2.2 = b + ns.length ∧ (∀ q ∈ (lay p d b).2.1, ∃ o i, i < ns.length ∧ q = (b + i, some o) ∧ o.live = true ∧ ORel c μ' Nm' S' w (b + i) o) ∧ ∀ n ∈ ns, ∃ o, m n = some o ∧ o.live = true
  | .cell t, v, x, d, ns, b, hS, h, hv, hμ, hN => by
    simp only [grab] at h
    split at h
    · rename_i d' ns' hp
      split at h
      · rename_i hsoft
        injection h with h; injection h with h1 h2; subst h1; subst h2
        obtain ⟨v0, v1, he, hf, hr⟩ := pack_rel hm _ _ _ _ _ [x] hp (by simp only [VRels, and_true]; exact hv)
        have := VRels_nil hr; subst this
        rw [List.append_nil] at he
        have hf' : Kd.FK t.kd w S' d' v0 := by
          rcases hS with hS | hS
          · exact FK_flat t hS _ _ hf
          · exact Kd.FK_mono (Kd.FK_mono hf (fun k hk => withB_soft hsoft hk)) hS
        have h3 := VRels_get (unpack_rel (μ := μ') (Nm := Nm') _ _ _ hf') 0
        rw [← he] at h3
        refine ⟨by simpa [lay] using h3, by simp [lay], by simp [lay], by simp⟩
      · cases h
    · cases h
  | .own e t, v, x, d, ns, b, hS, h, hv, hμ, hN => by
    cases v <;> simp only [grab] at h <;> try (cases h; done)
    rename_i n
    have hv' := hv
    obtain ⟨hN1, hxn⟩ := ownOf_rel hm h hv
    rcases hxn with ⟨h1, h2, h3⟩ | ⟨n', h1, h2, h3⟩
    · subst h1
      simp only [ownOf] at h
      split at h
      · split at h
        · split at h
          · injection h with h; injection h with _ h; cases h
          · cases h
        · cases h
      · cases h
    · subst h1
      have hnn : n = n' := by
        simp only [ownOf] at h
        split at h
        · split at h
          · split at h
            · injection h with h; injection h with _ h; simpa using h
            · cases h
          · cases h
        · cases h
      subst hnn
      have hμb : μ' b = μ n := by have := hμ 0 (by simp); simpa [nthN] using this
      have hNb : Nm' b := by have := hN 0 (by simp); simpa using this
      simp only [VRel] at hv
      refine ⟨?_, by simp [lay], ?_, ?_⟩
      · simp only [lay, VRel]
        exact ⟨hNb, by rw [hμb]; exact hv.2.1, hv.2.2⟩
      · intro q hq
        simp only [lay, List.mem_singleton] at hq
        refine ⟨_, 0, by simp, by simpa using hq, rfl, ?_⟩
        simp only [ORel, Nat.add_zero]
        rw [hμb]
        rw [hv.2.1] at hN1
        exact NX_turn hS hN1
      · intro n2 hn2
        rw [List.mem_singleton.1 hn2]
        exact ⟨_, h3, rfl⟩
  | .box T cs, v, x, d, ns, b, hS, h, hv, hμ, hN => by
    cases v <;> simp only [grab] at h <;> try (cases h; done)
    rename_i n off
    split at h
    · rename_i U xs hmn
      split at h
      · rename_i hT
        have := Nat.eq_of_beq_eq_true hT; subst this
        split at h
        · rename_i d' ns' hg
          injection h with h; injection h with h1 h2; subst h1; subst h2
          simp only [VRel] at hv
          have ho := hm n _ hmn
          simp only [ORel] at ho
          obtain ⟨g, vs, k1, k2, k3, k4⟩ := ho
          have hμb : μ' b = μ n := by have := hμ 0 (by simp); simpa [nthN] using this
          have hNb : Nm' b := by have := hN 0 (by simp); simpa using this
          obtain ⟨g1, g2, g3, g4⟩ := grabs_rel hm hpin cs xs vs.toList d' ns' (b + 1) (by simpa only [flatPV] using hS) hg k4 (fun i hi => by
            have := hμ (i + 1) (by simp; omega)
            rw [show b + 1 + i = b + (i + 1) by omega, this]; rfl) (fun i hi => by
            have := hN (i + 1) (by simp; omega)
            rw [show b + 1 + i = b + (i + 1) by omega]; exact this)
          refine ⟨?_, ?_, ?_, ?_⟩
          · simp only [lay, VRel]
            obtain ⟨_, g', e1, e2⟩ := hv
            exact ⟨hNb, g', by rw [hμb]; exact e1, e2⟩
          · simp only [lay]; rw [g2]; simp; omega
          · intro q hq
            simp only [lay, List.mem_cons] at hq
            rcases hq with rfl | hq
            · refine ⟨_, 0, by simp, rfl, rfl, ?_⟩
              simp only [ORel, Nat.add_zero]
              exact ⟨g, vs, by rw [hμb]; exact k1, k2, k3, g1⟩
            · obtain ⟨o, i, h1, h2, h3, h4⟩ := g3 q hq
              refine ⟨o, i + 1, by simp; omega, by rw [h2, show b + 1 + i = b + (i + 1) by omega], h3, ?_⟩
              rw [show b + (i + 1) = b + 1 + i by omega]; exact h4
          · intro n2 hn2
            rcases List.mem_cons.1 hn2 with rfl | hn2
            · exact ⟨_, hmn, rfl⟩
            · exact g4 n2 hn2
        · cases h
      · cases h
    · cases h
  | .agg cs, v, x, d, ns, b, hS, h, hv, hμ, hN => by
    cases v <;> simp only [grab] at h <;> try (cases h; done)
    rename_i xs
    simp only [VRel] at hv
    obtain ⟨vs, rfl, hvs⟩ := hv
    obtain ⟨g1, g2, g3, g4⟩ := grabs_rel hm hpin cs xs vs.toList d ns b (by simpa only [flatPV] using hS) h hvs hμ hN
    refine ⟨?_, ?_, ?_, g4⟩
    · simp only [lay, VRel]; exact ⟨vs, rfl, g1⟩
    · simp only [lay]; exact g2
    · simp only [lay]; exact g3
  | .nil, v, x, d, ns, b, hS, h, hv, hμ, hN => by
    cases v <;> simp only [grab] at h <;> try (cases h; done)
    injection h with h; injection h with h1 h2; subst h2
    simp only [VRel] at hv
    refine ⟨by simp only [lay, VRel]; exact hv, by simp [lay], by simp [lay], by simp⟩
  | .pin row j, v, x, d, ns, b, hS, h, hv, hμ, hN => by
    cases row with
    | true =>
      cases v <;> simp only [grab] at h <;> try (cases h; done)
      rename_i n
      split at h
      · rename_i hj
        simp only [Bool.and_eq_true, Nat.blt_eq] at hj
        have := Nat.eq_of_beq_eq_true hj.1; subst this
        injection h with h; injection h with h1 h2; subst h2
        obtain ⟨p1, p2⟩ := hpin n hj.2
        simp only [VRel] at hv
        refine ⟨by simp only [lay, VRel]; exact ⟨p1, by rw [p2]; exact hv.2.1, hv.2.2⟩, by simp [lay], by simp [lay], by simp⟩
      · cases h
    | false =>
      cases v <;> simp only [grab] at h <;> try (cases h; done)
      rename_i n off
      cases off with
      | succ _ => cases h
      | zero =>
        simp only at h
        split at h
        · rename_i hj
          simp only [Bool.and_eq_true, Nat.blt_eq] at hj
          have := Nat.eq_of_beq_eq_true hj.1; subst this
          injection h with h; injection h with h1 h2; subst h2
          obtain ⟨p1, p2⟩ := hpin n hj.2
          simp only [VRel] at hv
          refine ⟨by simp only [lay, VRel]; exact ⟨p1, by rw [p2]; exact hv.2⟩, by simp [lay], by simp [lay], by simp⟩
        · cases h
  | .ref t, v, x, d, ns, b, hS, h, hv, hμ, hN => by
    have hS' : ∀ k, S k → S' k := hS.resolve_left (by simp [flatPV])
    cases v <;> simp only [grab] at h <;> try (cases h; done)
    rename_i t' y off
    cases off with
    | succ _ => cases h
    | zero =>
      simp only at h
      cases hc : castT t' t y with
      | none => rw [hc] at h; cases h
      | some y' =>
        rw [hc] at h
        injection h with h; injection h with h1 h2; subst h1; subst h2
        obtain ⟨e, hy⟩ := castT_eq hc
        subst e; subst hy
        refine ⟨?_, by simp [lay], by simp [lay], by simp⟩
        simp only [lay, VRel] at hv ⊢
        obtain ⟨ad, cs, h1, h2, h3, h4⟩ := hv
        exact ⟨ad, cs, h1, Kd.FK_mono h2 hS', h3, fun h => hS' _ (h4 h)⟩
  | .clo g cs, v, x, d, ns, b, hS, h, hv, hμ, hN => by
    cases v <;> simp only [grab] at h <;> try (cases h; done)
    rename_i g' xs
    split at h
    · rename_i hg
      have := Nat.eq_of_beq_eq_true hg; subst this
      simp only [VRel] at hv
      obtain ⟨vs, rfl, hvs⟩ := hv
      obtain ⟨g1, g2, g3, g4⟩ := grabs_rel hm hpin cs xs vs.toList d ns b (by simpa only [flatPV] using hS) h hvs hμ hN
      refine ⟨?_, ?_, ?_, g4⟩
      · simp only [lay, VRel]; exact ⟨vs, rfl, g1⟩
      · simp only [lay]; exact g2
      · simp only [lay]; exact g3
    · cases h
  | .mp T ak tk av tv, v, x, d, ns, b, hS, h, hv, hμ, hN => by
    cases v <;> simp only [grab] at h <;> try (cases h; done)
    rename_i n
    split at h
    · rename_i T' ak' tk' av' tv' es hmn
      split at h
      · rename_i hB
        simp only [Bool.and_eq_true, beq_iff_eq] at hB
        have e1 := Nat.eq_of_beq_eq_true hB.1
        obtain ⟨e2, e3⟩ := hB.2
        subst e1; subst e2; subst e3
        split at h
        · rename_i es' hc
          injection h with h; injection h with h1 h2; subst h1; subst h2
          obtain ⟨e4, e5, e6⟩ := castM_eq hc
          subst e4; subst e5; subst e6
          have hμb : μ' b = μ n := by have := hμ 0 (by simp); simpa [nthN] using this
          have hNb : Nm' b := by have := hN 0 (by simp); simpa using this
          simp only [VRel] at hv
          have ho := hm n _ hmn
          simp only [ORel] at ho
          obtain ⟨g, l, clk, k1, k2, k3, k4⟩ := ho
          refine ⟨?_, by simp [lay], ?_, ?_⟩
          · simp only [lay, VRel]
            exact ⟨hNb, by rw [hμb]; exact hv.2.1, hv.2.2⟩
          · intro q hq
            simp only [lay, List.mem_singleton] at hq
            refine ⟨_, 0, by simp, by simpa using hq, rfl, ?_⟩
            simp only [ORel, Nat.add_zero]
            refine ⟨g, l, clk, by rw [hμb]; exact k1, k2, k3, ?_⟩
            rcases hS with hS | hS
            · exact ents_flat hS k4
            · exact ents_step (fun _ _ _ => rfl) (fun k hk _ => hS k hk) k4
          · intro n2 hn2
            rw [List.mem_singleton.1 hn2]
            exact ⟨_, hmn, rfl⟩
        · cases h
      · cases h
    · cases h
theorem grabs_rel (hm : ∀ n o, m n = some o → ORel c μ Nm S w n o) (hpin : ∀ j, j < np → Nm' j ∧ μ' j = μ j) : ∀ (ps : List PV) (vs : List AV) (xs : List Value) (d : PVs ps) (ns : List Nat) (b : Nat), (flatPVs ps = true ∨ ∀ k, S k → S' k) → grabs z m np ps vs = some (d, ns) → VRels μ Nm S w vs xs → (∀ i, i < ns.length → μ' (b + i) = μ (nthN ns i)) → (∀ i, i < ns.length → Nm' (b + i)) →
    VRels μ' Nm' S' w (lays ps d b).1 xs ∧ (lays ps d b).2.2 = b + ns.length ∧ (∀ q ∈ (lays ps d b).2.1, ∃ o i, i < ns.length ∧ q = (b + i, some o) ∧ o.live = true ∧ ORel c μ' Nm' S' w (b + i) o) ∧ ∀ n ∈ ns, ∃ o, m n = some o ∧ o.live = true
  | [], vs, xs, d, ns, b, hS, h, hv, hμ, hN => by
    cases vs with
    | nil =>
      simp only [grabs] at h
      injection h with h; injection h with h1 h2; subst h2
      have := VRels_nil hv; subst this
      refine ⟨by simp only [lays, VRels], by simp [lays], by simp [lays], by simp⟩
    | cons _ _ => simp [grabs] at h
  | p :: ps, vs, xs, d, ns, b, hS, h, hv, hμ, hN => by
    cases vs with
    | nil => simp [grabs] at h
    | cons v vs =>
      cases xs with
      | nil => simp only [VRels] at hv
      | cons x xs =>
        simp only [VRels] at hv
        simp only [grabs] at h
        split at h
        · rename_i d1 ns1 h1
          split at h
          · rename_i d2 ns2 h2
            injection h with h; injection h with e1 e2; subst e1; subst e2
            have hS1 : flatPV p = true ∨ ∀ k, S k → S' k := hS.imp (fun h => by simp only [flatPVs, Bool.and_eq_true] at h; exact h.1) id
            have hS2 : flatPVs ps = true ∨ ∀ k, S k → S' k := hS.imp (fun h => by simp only [flatPVs, Bool.and_eq_true] at h; exact h.2) id
            obtain ⟨g1, g2, g3, g4⟩ := grab_rel hm hpin p v x d1 ns1 b hS1 h1 hv.1 (fun i hi => by
              rw [hμ i (by simp; omega), nthN_l hi]) (fun i hi => hN i (by simp; omega))
            obtain ⟨k1, k2, k3, k4⟩ := grabs_rel hm hpin ps vs xs d2 ns2 (b + ns1.length) hS2 h2 hv.2 (fun i hi => by
              rw [show b + ns1.length + i = b + (ns1.length + i) by omega, hμ (ns1.length + i) (by simp; omega), nthN_r]) (fun i hi => by
              rw [show b + ns1.length + i = b + (ns1.length + i) by omega]; exact hN (ns1.length + i) (by simp; omega))
            refine ⟨?_, ?_, ?_, ?_⟩
            · simp only [lays, VRels]; rw [g2]; exact ⟨g1, k1⟩
            · simp only [lays]; rw [g2, k2]; simp; omega
            · intro q hq
              simp only [lays] at hq
              rw [g2] at hq
              rcases List.mem_append.1 hq with hq | hq
              · obtain ⟨o, i, a1, a2, a3⟩ := g3 q hq
                exact ⟨o, i, by simp; omega, a2, a3⟩
              · obtain ⟨o, i, a1, a2, a3, a4⟩ := k3 q hq
                refine ⟨o, ns1.length + i, by simp; omega, by rw [a2, show b + ns1.length + i = b + (ns1.length + i) by omega], a3, ?_⟩
                rw [show b + (ns1.length + i) = b + ns1.length + i by omega]; exact a4
            · intro n hn
              rcases List.mem_append.1 hn with hn | hn
              · exact g4 n hn
              · exact k4 n hn
          · cases h
        · cases h
end

theorem nodupB_iff : ∀ {l : List Nat}, nodupB l = true → l.Nodup
  | [], _ => List.nodup_nil
  | n :: l, h => by
    simp only [nodupB, Bool.and_eq_true, Bool.not_eq_true'] at h
    refine List.nodup_cons.2 ⟨fun hn => ?_, nodupB_iff h.2⟩
    rw [(memN_iff n l).2 hn] at h
    cases h.1

theorem updL_some {n : Nat} {o : Obj} : ∀ {us : List (Nat × Option Obj)} {m : Nat → Option Obj}, updL m us n = some o → (n, some o) ∈ us ∨ m n = some o
  | [], _, h => .inr h
  | (i, o') :: us, m, h => by
    simp only [updL] at h
    rcases updL_some h with h1 | h1
    · exact .inl (List.mem_cons_of_mem _ h1)
    · rw [upd1_get] at h1
      by_cases e : i = n
      · rw [if_pos e] at h1; rw [e, h1]; exact .inl List.mem_cons_self
      · rw [if_neg e] at h1; exact .inr h1
end
end Go.Proofs.Ytinopkpnlibopaa.Ab
