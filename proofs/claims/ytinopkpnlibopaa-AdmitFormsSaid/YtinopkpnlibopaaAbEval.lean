import Derived.Test.YtinopkpnlibopaaAbCut
/- The evaluator is right: what it answers, the code does. -/
set_option linter.unusedVariables false
set_option linter.unusedSimpArgs false
namespace Go.Proofs.Ytinopkpnlibopaa.Ab
open Go.RowKit

section
variable {P : Program} {E : Env} {c : Ctx} {R : Type} {r : R}

def toExit : BExit → Exit
  | .normal => .normal | .exit id => .exit id | .ret => .ret

theorem rounds_mono {C : Code} {Q : Exit → Act → World → Prop} : ∀ {i j : Nat} {a : Act} {w : World}, i ≤ j → Code.rounds P C Q i a w → Code.rounds P C Q j a w
  | 0, _, _, _, _, h => h.elim
  | i + 1, 0, _, _, hij, _ => by omega
  | i + 1, j + 1, a, w, hij, h => by
    rw [rounds_succ] at h ⊢
    refine Code.wp_mono (fun e a w q => ?_) h
    cases e <;> first | exact q | exact rounds_mono (by omega) q

theorem frcT_eq : ∀ (t : Ty) (d : t.D) (κ : t.D → R), frcT t d κ = κ d
  | .unit, _, _ => rfl
  | .int _, n, κ => frcI_eq n κ
  | .bool, b, κ => by cases b <;> rfl
  | .str, _, _ => rfl
  | .sl _ t, xs, κ => frcL_eq (fun x κ => frcT_eq t x κ) xs κ
  | .pair a b, p, κ => by simp only [frcT]; rw [frcT_eq a, frcT_eq b]
mutual
theorem frcP_eq : ∀ (p : PV) (d : p.D) (κ : p.D → R), frcP p d κ = κ d
  | .cell t, d, κ => by simp only [frcP]; exact frcT_eq t d κ
  | .own _ t, xs, κ => by simp only [frcP]; exact frcL_eq (fun x κ => frcT_eq t x κ) xs κ
  | .box _ cs, d, κ => by simp only [frcP]; exact frcPs_eq cs d κ
  | .agg cs, d, κ => by simp only [frcP]; exact frcPs_eq cs d κ
  | .nil, _, _ => by simp only [frcP]
  | .pin _ _, _, _ => by simp only [frcP]
  | .ref t, d, κ => by simp only [frcP]; exact frcT_eq t d κ
  | .clo _ cs, d, κ => by simp only [frcP]; exact frcPs_eq cs d κ
  | .mp _ _ tk _ tv, es, κ => by simp only [frcP]; exact frcL_eq (fun x κ => by rw [frcT_eq tk, frcT_eq tv]) es κ
theorem frcPs_eq : ∀ (ps : List PV) (d : PVs ps) (κ : PVs ps → R), frcPs ps d κ = κ d
  | [], _, _ => by simp only [frcPs]
  | p :: r, d, κ => by simp only [frcPs]; rw [frcP_eq p, frcPs_eq r]
end
theorem frcPP_eq : ∀ (ps : List PP) (d : PPD ps) (κ : PPD ps → R), frcPP ps d κ = κ d
  | [], _, _ => by simp only [frcPP]
  | .gone :: r, d, κ => by simp only [frcPP]; exact frcPP_eq r d κ
  | .mrow _ t :: r, d, κ => by simp only [frcPP]; rw [frcL_eq (fun x κ => frcT_eq t x κ), frcPP_eq r]
  | .mbox _ cs :: r, d, κ => by simp only [frcPP]; rw [frcPs_eq cs, frcPP_eq r]
theorem Cut.frc_eq (ct : Cut) (x : ct.D) (κ : ct.D → R) : ct.frc x κ = κ x := by
  unfold Cut.frc
  rw [frcPP_eq, frcPs_eq]
theorem iter_succ (ct : Cut) (f : (ct.D → Option R) → ct.D → Option R) (j : Nat) (d : ct.D) : iter ct f (j + 1) d = f (iter ct f j) d := by
  simp only [iter]; rw [ct.frc_eq]

/-- Each thing told is as it is reckoned. -/
def Just (E : Env) (k : Nat) (T : Tbl R) : Code → Kont R → Prop
  | .seq a c, K => (match T.joinOf c with
    | .join ct f => (∀ d, f d = evalM E k T c K (ct.at d)) ∧ Just E k T a (kSeq (fun s => (ct.gr s).bind f) K) ∧ Just E k T c K
    | _ => Just E k T a (kSeq (evalM E k T c K) K) ∧ Just E k T c K)
  | .cond _ x y, K => Just E k T x K ∧ Just E k T y K
  | .block id c, K => Just E k T c (kBlock id K)
  | .loop c, K => (match T.loopOf c with
    | .loop ct f sub => (∀ g d, f g d = evalM E k (sub g) c (kSeq (fun s => (ct.gr s).bind g) K) (ct.at d)) ∧ ∀ g, Just E k (sub g) c (kSeq (fun s => (ct.gr s).bind g) K)
    | _ => True)
  | .scope c, K => Just E k T c K
  | _, _ => True

theorem obt_eq {α : Type} {x y : α} {r r' : Obt} (h : Obt.eq α x r = Obt.eq α y r') : x = y ∧ r = r' := by
  injection h with _ h1 h2
  exact ⟨h1, h2⟩
theorem obt_all {α : Type} {f g : α → Obt} {r r' : Obt} (h : Obt.all α f r = Obt.all α g r') : f = g ∧ r = r' := by
  injection h with _ h1 h2
  exact ⟨h1, h2⟩

theorem owed_just {E : Env} {k : Nat} : ∀ (C : Code) (T : Tbl R) (K : Kont R) (r r' : Obt), owed E k true T C K r = owed E k false T C K r' → Just E k T C K ∧ r = r' := by
  intro C
  induction C with
  | seq a c iha ihc =>
    intro T K r r' h
    simp only [owed, Just] at h ⊢
    cases hc : T.joinOf c with
    | join ct f =>
      rw [hc] at h
      obtain ⟨h1, h2⟩ := obt_eq h
      obtain ⟨g1, g2⟩ := iha _ _ _ _ h2
      obtain ⟨g3, g4⟩ := ihc _ _ _ _ g2
      exact ⟨⟨fun d => congrFun h1 d, g1, g3⟩, g4⟩
    | none =>
      rw [hc] at h
      obtain ⟨g1, g2⟩ := iha _ _ _ _ h
      obtain ⟨g3, g4⟩ := ihc _ _ _ _ g2
      exact ⟨⟨g1, g3⟩, g4⟩
    | loop ct f sub =>
      rw [hc] at h
      obtain ⟨g1, g2⟩ := iha _ _ _ _ h
      obtain ⟨g3, g4⟩ := ihc _ _ _ _ g2
      exact ⟨⟨g1, g3⟩, g4⟩
  | cond q x y ihx ihy =>
    intro T K r r' h
    simp only [owed, Just] at h ⊢
    obtain ⟨g1, g2⟩ := ihx _ _ _ _ h
    obtain ⟨g3, g4⟩ := ihy _ _ _ _ g2
    exact ⟨⟨g1, g3⟩, g4⟩
  | block id c ih => intro T K r r' h; simp only [owed, Just] at h ⊢; exact ih _ _ _ _ h
  | scope c ih => intro T K r r' h; simp only [owed, Just] at h ⊢; exact ih _ _ _ _ h
  | loop c ih =>
    intro T K r r' h
    simp only [owed, Just] at h ⊢
    cases hc : T.loopOf c with
    | loop ct f sub =>
      rw [hc] at h
      obtain ⟨h1, h2⟩ := obt_eq h
      obtain ⟨h3, h4⟩ := obt_all h2
      exact ⟨⟨fun g d => congrFun (congrFun h1 g) d, fun g => (ih _ _ _ _ (congrFun h3 g)).1⟩, h4⟩
    | none => rw [hc] at h; exact ⟨trivial, h⟩
    | join ct f => rw [hc] at h; exact ⟨trivial, h⟩
  | _ => intro T K r r' h; simp only [owed, Just] at h ⊢; exact ⟨trivial, h⟩

theorem evalM_ok (hE : EnvOK P E) (hmix : P.follows .mixedOrders = true) {n k : Nat} : ∀ (C : Code) (T : Tbl R) (K : Kont R) (s : St), Just E k T C K → evalM E k T C K s = some r → ∀ (a : Act) (w : World) (μ : Nat → Value) (Nm : Nat → Prop) (Q : Exit → Act → World → Prop), s.n = n → Rel c s a w μ Nm → (∀ i, Nm i → i < s.nxt) →
    (∀ e s' a' w' μ' Nm', K e s' = some r → s'.n = n → Rel c s' a' w' μ' Nm' → (∀ i, Nm' i → i < s'.nxt) → Q (toExit e) a' w') → C.wp P Q a w := by
  intro C
  induction C with
  | skip =>
    intro T K s hj h a w μ Nm Q hn hr hN hK
    simp only [evalM] at h
    exact wp_skip (hK .normal s a w μ Nm h hn hr hN)
  | region id ops draw =>
    intro T K s hj h a w μ Nm Q hn hr hN hK
    simp only [evalM] at h
    split at h
    · refine wp_region ?_
      have := seqOps_ok (c := c) (Q := Q) hE ops.toList 0 rfl s h a w μ Nm hr hN (fun s' a' w' μ' Nm' hk hn' hr' hN' => hK .normal s' a' w' μ' Nm' hk (hn'.trans hn) hr' hN')
      rw [List.range_eq_range']
      simpa using this
    · refine wp_region_any hmix ?_
      exact drawOps_ok (c := c) hE h hr.drew hN (fun s' a' w' μ' Nm' hk hn' hr' hN' => hK .normal s' a' w' μ' Nm' hk (hn'.trans hn) hr' hN')
  | seq x y ihx ihy =>
    intro T K s hj h a w μ Nm Q hn hr hN hK
    simp only [evalM, Just] at h hj
    split at hj
    · rename_i ct f hc
      rw [hc] at h
      simp only at h
      obtain ⟨h1, h2, h3⟩ := hj
      refine wp_seq (ihx T _ s h2 h a w μ Nm _ hn hr hN (fun e s' a' w' μ' Nm' hk hn' hr' hN' => ?_))
      cases e with
      | normal =>
        simp only [kSeq] at hk
        rw [Option.bind_eq_some_iff] at hk
        obtain ⟨d, hgr, hf⟩ := hk
        obtain ⟨q1, μ2, Nm2, hr2, hN2⟩ := cut_rel hgr hr'
        rw [h1] at hf
        show y.wp P Q a' w'
        exact ihy T K _ h3 hf a' w' μ2 Nm2 Q (by rw [← hn', q1]; rfl) hr2 hN2 hK
      | exit id => exact hK (.exit id) s' a' w' μ' Nm' hk hn' hr' hN'
      | ret => exact hK .ret s' a' w' μ' Nm' hk hn' hr' hN'
    · rename_i hc
      obtain ⟨h2, h3⟩ := hj
      have h' : evalM E k T x (kSeq (evalM E k T y K) K) s = some r := by
        split at h
        · rename_i ct f hc'; exact absurd hc' (hc ct f)
        · exact h
      refine wp_seq (ihx T _ s h2 h' a w μ Nm _ hn hr hN (fun e s' a' w' μ' Nm' hk hn' hr' hN' => ?_))
      cases e with
      | normal => show y.wp P Q a' w'; exact ihy T K s' h3 hk a' w' μ' Nm' Q hn' hr' hN' hK
      | exit id => exact hK (.exit id) s' a' w' μ' Nm' hk hn' hr' hN'
      | ret => exact hK .ret s' a' w' μ' Nm' hk hn' hr' hN'
  | cond q x y ihx ihy =>
    intro T K s hj h a w μ Nm Q hn hr hN hK
    simp only [evalM, Just] at h hj
    have h := splitO_ok h
    split at h
    · rename_i t ht
      have h1 := hr.op q
      rw [ht] at h1
      simp only [VRel] at h1
      refine wp_cond_split h1 (fun e => ?_) (fun e => ?_)
      · subst e
        exact ihx T K s hj.1 h a w μ Nm Q hn hr hN hK
      · subst e
        exact ihy T K s hj.2 h a w μ Nm Q hn hr hN hK
    · cases h
  | block id x ih =>
    intro T K s hj h a w μ Nm Q hn hr hN hK
    simp only [evalM, Just] at h hj
    refine wp_block (ih T _ s hj h a w μ Nm _ hn hr hN (fun e s' a' w' μ' Nm' hk hn' hr' hN' => ?_))
    cases e with
    | normal => exact hK .normal s' a' w' μ' Nm' hk hn' hr' hN'
    | exit id' =>
      simp only [kBlock] at hk
      simp only [toExit, Exit.inBlock]
      split at hk
      · rename_i hid
        rw [if_pos (Nat.eq_of_beq_eq_true hid)]
        exact hK .normal s' a' w' μ' Nm' hk hn' hr' hN'
      · rename_i hid
        rw [if_neg (Nat.ne_of_beq_eq_false hid)]
        exact hK (.exit id') s' a' w' μ' Nm' hk hn' hr' hN'
    | ret => exact hK .ret s' a' w' μ' Nm' hk hn' hr' hN'
  | scope x ih =>
    intro T K s hj h a w μ Nm Q hn hr hN hK
    simp only [evalM, Just] at h hj
    refine wp_scope_straight (ih T K s hj h a w μ Nm _ hn hr hN (fun e s' a' w' μ' Nm' hk hn' hr' hN' => ?_))
    have := hK e s' a' w' μ' Nm' hk hn' hr' hN'
    cases e <;> exact this
  | loop x ih =>
    intro T K s hj h a w μ Nm Q hn hr hN hK
    simp only [evalM, Just] at h hj
    split at h
    · rename_i ct f sub hc
      rw [hc] at hj
      simp only at hj
      obtain ⟨h1, h2⟩ := hj
      have key : ∀ (j : Nat) (s : St), (ct.gr s).bind (iter ct f j) = some r → s.n = n → ∀ (a : Act) (w : World) (μ : Nat → Value) (Nm : Nat → Prop), Rel c s a w μ Nm → Code.rounds P x Q j a w := by
        intro j
        induction j with
        | zero =>
          intro s h
          rw [Option.bind_eq_some_iff] at h
          obtain ⟨_, _, h⟩ := h
          cases h
        | succ j ihj =>
          intro s h hn a w μ Nm hr
          rw [Option.bind_eq_some_iff] at h
          obtain ⟨d, hgr, h⟩ := h
          obtain ⟨q1, μ2, Nm2, hr2, hN2⟩ := cut_rel hgr hr
          rw [iter_succ, h1] at h
          rw [rounds_succ]
          refine ih (sub (iter ct f j)) _ _ (h2 _) h a w μ2 Nm2 _ (by rw [← hn, q1]; rfl) hr2 hN2 (fun e s' a' w' μ' Nm' hk hn' hr' hN' => ?_)
          cases e with
          | normal => exact ihj s' hk hn' a' w' μ' Nm' hr'
          | exit id => exact hK (.exit id) s' a' w' μ' Nm' hk hn' hr' hN'
          | ret => exact hK .ret s' a' w' μ' Nm' hk hn' hr' hN'
      exact wp_loop_rounds k (key k s h hn a w μ Nm hr)
    · cases h
  | exit id =>
    intro T K s hj h a w μ Nm Q hn hr hN hK
    simp only [evalM] at h
    exact wp_exit (hK (.exit id) s a w μ Nm h hn hr hN)
  | ret =>
    intro T K s hj h a w μ Nm Q hn hr hN hK
    simp only [evalM] at h
    exact wp_ret (hK .ret s a w μ Nm h hn hr hN)
  | _ =>
    intros
    rename_i h _ _ _ _ _ _ _ _ _
    simp only [evalM] at h
    cases h
end
end Go.Proofs.Ytinopkpnlibopaa.Ab
