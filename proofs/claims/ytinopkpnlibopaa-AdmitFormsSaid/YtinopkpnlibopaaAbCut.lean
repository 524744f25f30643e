import Derived.Test.YtinopkpnlibopaaAbDraw
/- Cuts: what lives on is taken up anew, under new names. -/
set_option linter.unusedVariables false
set_option linter.unusedSimpArgs false
namespace Go.Proofs.Ytinopkpnlibopaa.Ab
open Go.RowKit

section
variable {P : Program} {E : Env} {c : Ctx} {R : Type} {r : R}
variable {m : Nat → Option Obj} {μ μ' : Nat → Value} {Nm Nm' S S' : Nat → Prop} {w : World}

theorem putS_rel {T : Nat → Value} : ∀ (slots : List Nat) (vs : List AV) (f : Nat → AV), (∀ x, VRel μ Nm S w (f x) (T x)) → VRels μ Nm S w vs (slots.map T) → ∀ x, VRel μ Nm S w (putS slots vs f x) (T x)
  | [], vs, f, hf, _, x => by cases vs <;> (simp only [putS]; exact hf x)
  | i :: slots, [], f, hf, _, x => by simp only [putS]; exact hf x
  | i :: slots, v :: vs, f, hf, hv, x => by
    simp only [List.map_cons, VRels] at hv
    simp only [putS]
    refine putS_rel slots vs _ (fun y => ?_) hv.2 x
    rw [setS_get]
    split
    · rename_i e; subst e; exact hv.1
    · exact hf y

theorem getS_rel {s : St} {a : Act} {w : World} {μ : Nat → Value} {Nm : Nat → Prop} (hr : Rel c s a w μ Nm) : ∀ l : List Nat, VRels μ Nm (stab c μ s.mem) w (getS s l) (l.map fun x => a.tmps.getD x undef)
  | [] => by simp only [getS, List.map_nil, VRels]
  | x :: l => by simp only [getS, List.map_cons, VRels]; exact ⟨hr.slots x, getS_rel hr l⟩

/-- What is lent, at a cut. -/
theorem grabPP_rel {np : Nat} (hm : ∀ n o, m n = some o → ORel c μ Nm S w n o) (hpin : ∀ j, j < np → Nm' j ∧ μ' j = μ j) (hS : ∀ k, S k → S' k) : ∀ (ps : List PP) (j : Nat) (d : PPD ps) (pj is : List Nat) (b : Nat), j + lenL ps ≤ np → grabPP m np ps j = some (d, pj, is) → (∀ i, i < is.length → μ' (b + i) = μ (nthN is i) ∧ Nm' (b + i)) →
    (layPP ps d j b).2 = b + is.length ∧ (∀ q ∈ (layPP ps d j b).1, ∃ o, o.live = true ∧ ((∃ i, i < is.length ∧ q = (b + i, some o) ∧ ORel c μ' Nm' S' w (b + i) o) ∨ (∃ i, i ∈ pj ∧ q = (i, some o) ∧ ORel c μ' Nm' S' w i o))) ∧
      (∀ n ∈ pj ++ is, ∃ o, m n = some o ∧ o.live = true) ∧ ∀ n ∈ pj, n < np
  | [], j, d, pj, is, b, _, h, _ => by
    simp only [grabPP] at h
    injection h with h; injection h with h1 h2; injection h2 with h2 h3; subst h2; subst h3
    exact ⟨rfl, by simp [layPP], by simp, by simp⟩
  | .gone :: ps, j, d, pj, is, b, hle, h, hi => by
    simp only [grabPP] at h
    simp only [layPP]
    exact grabPP_rel hm hpin hS ps (j + 1) d pj is b (by simp only [lenL] at hle; omega) h hi
  | .mrow e t :: ps, j, d, pj, is, b, hle, h, hi => by
    simp only [lenL] at hle
    simp only [grabPP] at h
    split at h
    · rename_i d1 _ ho
      split at h
      · rename_i ds pj' is' hr
        injection h with h; injection h with h1 h2; injection h2 with h2 h3; subst h1; subst h2; subst h3
        have hmj := ownOf_own ho
        have hob := hm j _ hmj
        simp only [ORel] at hob
        obtain ⟨p1, p2⟩ := hpin j (by omega)
        obtain ⟨g1, g2, g3, g4⟩ := grabPP_rel hm hpin hS ps (j + 1) ds pj' is' b (by omega) hr hi
        simp only [layPP]
        refine ⟨g1, fun q hq => ?_, fun n hn => ?_, fun n hn => ?_⟩
        · rcases List.mem_cons.1 hq with rfl | hq
          · refine ⟨_, rfl, .inr ⟨j, List.mem_cons_self, rfl, ?_⟩⟩
            simp only [ORel]
            rw [p2]
            exact NX_turn (.inr hS) hob
          · obtain ⟨o, k1, k2⟩ := g2 q hq
            refine ⟨o, k1, k2.imp id (fun ⟨i, h1, h2⟩ => ⟨i, List.mem_cons_of_mem _ h1, h2⟩)⟩
        · simp only [List.cons_append, List.mem_cons] at hn
          rcases hn with rfl | hn
          · exact ⟨_, hmj, rfl⟩
          · exact g3 n hn
        · rcases List.mem_cons.1 hn with rfl | hn
          · omega
          · exact g4 n hn
      · cases h
    · cases h
  | .mbox T cs :: ps, j, d, pj, is, b, hle, h, hi => by
    simp only [lenL] at hle
    simp only [grabPP] at h
    split at h
    · rename_i U xs hmj
      split at h
      · rename_i hT
        have := Nat.eq_of_beq_eq_true hT; subst this
        split at h
        · rename_i d1 is1 hg
          split at h
          · rename_i ds pj' is' hr
            injection h with h; injection h with h1 h2; injection h2 with h2 h3; subst h1; subst h2; subst h3
            have hob := hm j _ hmj
            simp only [ORel] at hob
            obtain ⟨g, vs, k1, k2, k3, k4⟩ := hob
            obtain ⟨p1, p2⟩ := hpin j (by omega)
            obtain ⟨m1, m2, m3, m4⟩ := grabs_rel (μ' := μ') (Nm' := Nm') (S' := S') hm hpin cs xs vs.toList d1 is1 b (.inr hS) hg k4 (fun i hlt => by rw [(hi i (by simp; omega)).1, nthN_l hlt]) (fun i hlt => (hi i (by simp; omega)).2)
            obtain ⟨g1, g2, g3, g4⟩ := grabPP_rel hm hpin hS ps (j + 1) ds pj' is' (b + is1.length) (by omega) hr (fun i hlt => by
              have := hi (is1.length + i) (by simp; omega)
              rw [show b + is1.length + i = b + (is1.length + i) by omega]; rw [nthN_r] at this; exact this)
            simp only [layPP]
            rw [m2]
            refine ⟨by rw [g1]; simp; omega, fun q hq => ?_, fun n hn => ?_, fun n hn => ?_⟩
            · rcases List.mem_cons.1 hq with rfl | hq
              · refine ⟨_, rfl, .inr ⟨j, List.mem_cons_self, rfl, ?_⟩⟩
                simp only [ORel]
                exact ⟨g, vs, by rw [p2]; exact k1, k2, k3, m1⟩
              · rcases List.mem_append.1 hq with hq | hq
                · obtain ⟨o, i, a1, a2, a3, a4⟩ := m3 q hq
                  exact ⟨o, a3, .inl ⟨i, by simp; omega, a2, a4⟩⟩
                · obtain ⟨o, a1, a2⟩ := g2 q hq
                  rcases a2 with ⟨i, a2, a3, a4⟩ | ⟨i, a2, a3⟩
                  · refine ⟨o, a1, .inl ⟨is1.length + i, by simp; omega, by rw [a3, show b + is1.length + i = b + (is1.length + i) by omega], ?_⟩⟩
                    rw [show b + (is1.length + i) = b + is1.length + i by omega]; exact a4
                  · exact ⟨o, a1, .inr ⟨i, List.mem_cons_of_mem _ a2, a3⟩⟩
            · simp only [List.cons_append, List.mem_cons, List.mem_append] at hn
              rcases hn with rfl | hn | hn | hn
              · exact ⟨_, hmj, rfl⟩
              · exact g3 n (List.mem_append_left _ hn)
              · exact m4 n hn
              · exact g3 n (List.mem_append_right _ hn)
            · rcases List.mem_cons.1 hn with rfl | hn
              · omega
              · exact g4 n hn
          · cases h
        · cases h
      · cases h
    · cases h

theorem cut_rel0 {ct : Cut} {s : St} {x : ct.D} (h : ct.gr0 s = some x) {a : Act} {w : World} {μ : Nat → Value} {Nm : Nat → Prop} (hr : Rel c s a w μ Nm) : s.n = ct.n ∧ ∃ μ' Nm', Rel c (ct.at x) a w μ' Nm' ∧ ∀ i, Nm' i → i < (ct.at x).nxt := by
  unfold Cut.gr0 at h
  split at h
  · rename_i d pj is d' ns' hl hgp hg
    simp only [Bool.and_eq_true] at hl
    have hsn := Nat.eq_of_beq_eq_true hl.1
    have hl := Nat.eq_of_beq_eq_true hl.2
    have hnp : lenL ct.pp = c.np := hl.trans hr.np
    split at h
    · rename_i hnd
      have hnd := nodupB_iff hnd
      let μ' : Nat → Value := fun i => if i < c.np then μ i else μ (nthN (is ++ ns') (i - c.np))
      let Nm' : Nat → Prop := fun i => i < c.np + (is ++ ns').length
      have hpin : ∀ j, j < s.np → Nm' j ∧ μ' j = μ j := fun j hj => by
        have hj' : j < c.np := by rw [← hr.np]; exact hj
        exact ⟨by show _ < _; omega, by simp only [μ', hj', if_true]⟩
      have hin : ∀ i, i < (is ++ ns').length → μ' (c.np + i) = μ (nthN (is ++ ns') i) := fun i hi => by
        simp only [μ']; rw [if_neg (by omega), Nat.add_sub_cancel_left]
      -- in general
      have gen : ∀ S' : Nat → Prop, (∀ k, stab c μ s.mem k → S' k) → (∀ q ∈ (layPP ct.pp d 0 c.np).1 ++ (lays ct.ps d' (c.np + is.length)).2.1, ∃ i o, o.live = true ∧ q = (i, some o) ∧ ORel c μ' Nm' S' w i o ∧ ((i ∈ pj ∧ i < c.np) ∨ (c.np ≤ i ∧ i < c.np + (is ++ ns').length))) ∧ (layPP ct.pp d 0 c.np).2 = c.np + is.length ∧ (lays ct.ps d' (c.np + is.length)).2.2 = c.np + (is ++ ns').length ∧ VRels μ' Nm' S' w (lays ct.ps d' (c.np + is.length)).1 (ct.slots.map fun x => a.tmps.getD x undef) ∧ ∀ n ∈ pj ++ (is ++ ns'), ∃ o, s.mem n = some o ∧ o.live = true := by
        intro S' hS
        obtain ⟨g1, g2, g3, g4⟩ := grabPP_rel (μ' := μ') (Nm' := Nm') hr.objs hpin hS ct.pp 0 d pj is c.np (by omega) hgp (fun i hi => ⟨by rw [hin i (by simp; omega), nthN_l hi], by show _ < _; simp; omega⟩)
        obtain ⟨k1, k2, k3, k4⟩ := grabs_rel (μ' := μ') (Nm' := Nm') (S' := S') hr.objs hpin ct.ps _ _ d' ns' (c.np + is.length) (.inr hS) hg (getS_rel hr ct.slots) (fun i hi => by rw [show c.np + is.length + i = c.np + (is.length + i) by omega, hin _ (by simp; omega), nthN_r]) (fun i hi => by show _ < _; simp; omega)
        refine ⟨fun q hq => ?_, g1, by rw [k2]; simp; omega, k1, fun n hn => ?_⟩
        · rcases List.mem_append.1 hq with hq | hq
          · obtain ⟨o, a1, a2⟩ := g2 q hq
            rcases a2 with ⟨i, a2, a3, a4⟩ | ⟨i, a2, a3, a4⟩
            · exact ⟨_, o, a1, a3, a4, .inr ⟨by omega, by simp; omega⟩⟩
            · exact ⟨_, o, a1, a3, a4, .inl ⟨a2, by rw [← hr.np]; exact g4 i a2⟩⟩
          · obtain ⟨o, i, a1, a2, a3, a4⟩ := k3 q hq
            exact ⟨_, o, a3, a2, a4, .inr ⟨by omega, by simp; omega⟩⟩
        · rcases List.mem_append.1 hn with hn | hn
          · exact g3 n (List.mem_append_left _ hn)
          · rcases List.mem_append.1 hn with hn | hn
            · exact g3 n (List.mem_append_right _ hn)
            · exact k4 n hn
      obtain ⟨f1, f2, f3, _, f5⟩ := gen _ (fun _ hk => hk)
      -- a name here, its name ahead
      have hback : ∀ i, (i ∈ pj ∧ i < c.np) ∨ (c.np ≤ i ∧ i < c.np + (is ++ ns').length) → ∃ n, n ∈ pj ++ (is ++ ns') ∧ μ' i = μ n ∧ ((i < c.np ∧ n = i) ∨ (c.np ≤ i ∧ n = nthN (is ++ ns') (i - c.np) ∧ i - c.np < (is ++ ns').length)) := fun i hi => by
        rcases hi with ⟨h1, h2⟩ | ⟨h1, h2⟩
        · exact ⟨i, List.mem_append_left _ h1, by simp only [μ', h2, if_true], .inl ⟨h2, rfl⟩⟩
        · refine ⟨nthN (is ++ ns') (i - c.np), List.mem_append_right _ (nthN_mem (by omega)), ?_, .inr ⟨h1, rfl, by omega⟩⟩
          simp only [μ']; rw [if_neg (by omega)]
      injection h with h
      subst h
      refine ⟨hsn.symm, μ', Nm', ?_⟩
      have hat : ct.at (d, d') = { sl := putS ct.slots (lays ct.ps d' (c.np + is.length)).1 (fun _ => .undef), mem := updL (fun _ => none) ((layPP ct.pp d 0 c.np).1 ++ (lays ct.ps d' (c.np + is.length)).2.1), nxt := (lays ct.ps d' (c.np + is.length)).2.2, n := ct.n, np := c.np } := by
        unfold Cut.at
        simp only
        rw [hnp, f2]
      have hmem0 : ∀ i o, updL (fun _ => none) ((layPP ct.pp d 0 c.np).1 ++ (lays ct.ps d' (c.np + is.length)).2.1) i = some o → ∃ n, n ∈ pj ++ (is ++ ns') ∧ μ' i = μ n ∧ ((i < c.np ∧ n = i) ∨ (c.np ≤ i ∧ n = nthN (is ++ ns') (i - c.np) ∧ i - c.np < (is ++ ns').length)) := fun i o hi => by
        obtain ⟨i', o', h1, h2, _, h4⟩ := f1 _ ((updL_some hi).resolve_right (by simp))
        injection h2 with h2 _
        subst h2
        exact hback i h4
      have hS : ∀ k, stab c μ s.mem k → stab c μ' (updL (fun _ => none) ((layPP ct.pp d 0 c.np).1 ++ (lays ct.ps d' (c.np + is.length)).2.1)) k := fun k hk => ⟨hk.1, fun i o hi hl hbk => by
        obtain ⟨n, h1, h2, _⟩ := hmem0 i o hi
        obtain ⟨o', h3, h4⟩ := f5 n h1
        rw [h2] at hbk
        exact hk.2 _ o' h3 h4 hbk⟩
      obtain ⟨g1, g2, g3, g4, _⟩ := gen _ hS
      refine ⟨?_, fun i hi => by rw [hat]; show i < (lays ct.ps d' (c.np + is.length)).2.2; rw [g3]; exact hi⟩
      rw [hat]
      refine ⟨hr.size.trans hsn.symm, rfl, fun j hj => ⟨by show _ < _; omega, ?_⟩, hr.defers, hr.below, fun i o hi => ?_, fun i o hi => ?_, fun i j o o' hi hj hl hl' hne k hk => ?_, fun x => ?_⟩
      · rw [← (hr.pins j hj).2]; simp only [μ', hj, if_true]
      · obtain ⟨n, _, _, h3⟩ := hmem0 i o hi
        show _ < _
        rcases h3 with h3 | h3 <;> omega
      · obtain ⟨i', o', h1, h2, h3, _⟩ := g1 _ ((updL_some hi).resolve_right (by simp))
        injection h2 with h2 h4
        injection h4 with h4
        subst h2; subst h4
        exact h3
      · obtain ⟨n1, h1, h2, h3⟩ := hmem0 i o hi
        obtain ⟨n2, h4, h5, h6⟩ := hmem0 j o' hj
        obtain ⟨o1, h7, h8⟩ := f5 n1 h1
        obtain ⟨o2, h9, h10⟩ := f5 n2 h4
        rw [h2] at hk
        rw [h5]
        refine hr.dist n1 n2 o1 o2 h7 h9 h8 h10 (fun e => hne ?_) k hk
        have hnd2 := List.nodup_append.1 hnd
        rcases h3 with ⟨a1, a2⟩ | ⟨a1, a2, a3⟩ <;> rcases h6 with ⟨b1, b2⟩ | ⟨b1, b2, b3⟩
        · rw [← a2, ← b2]; exact e
        · exfalso
          have hm2 : n2 ∈ is ++ ns' := by rw [b2]; exact nthN_mem b3
          have hm1 : n1 ∈ pj := by
            obtain ⟨i', o'', q1, q2, _, q4⟩ := f1 _ ((updL_some hi).resolve_right (by simp))
            injection q2 with q2 _
            subst q2
            rcases q4 with ⟨q4, _⟩ | ⟨q4, _⟩
            · rw [a2]; exact q4
            · omega
          exact hnd2.2.2 _ hm1 _ hm2 e
        · exfalso
          have hm1 : n1 ∈ is ++ ns' := by rw [a2]; exact nthN_mem a3
          have hm2 : n2 ∈ pj := by
            obtain ⟨i', o'', q1, q2, _, q4⟩ := f1 _ ((updL_some hj).resolve_right (by simp))
            injection q2 with q2 _
            subst q2
            rcases q4 with ⟨q4, _⟩ | ⟨q4, _⟩
            · rw [b2]; exact q4
            · omega
          exact hnd2.2.2 _ hm2 _ hm1 e.symm
        · have := nthN_inj hnd2.2.1 a3 b3 (by rw [← a2, ← b2]; exact e)
          omega
      · exact putS_rel (T := fun x => a.tmps.getD x undef) ct.slots _ _ (fun _ => by simp only [VRel]) g4 x
    · cases h
  · cases h

theorem cut_rel {ct : Cut} {s : St} {x : ct.D} (h : ct.gr s = some x) {a : Act} {w : World} {μ : Nat → Value} {Nm : Nat → Prop} (hr : Rel c s a w μ Nm) : s.n = ct.n ∧ ∃ μ' Nm', Rel c (ct.at x) a w μ' Nm' ∧ ∀ i, Nm' i → i < (ct.at x).nxt := by
  have h1 := (Rel.frzL (c := c) (m := s.mem) (softPP s.mem ct.pp 0 ++ softPs s.mem ct.ps (getS s ct.slots)) (Froz.refl _) hr).1
  exact cut_rel0 (s := ct.soft s) h h1
end
end Go.Proofs.Ytinopkpnlibopaa.Ab
