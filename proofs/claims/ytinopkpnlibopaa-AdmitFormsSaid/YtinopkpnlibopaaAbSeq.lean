import Derived.Test.YtinopkpnlibopaaAbOp
import Derived.LoopN
import Derived.Scope
/- Operations in their places; the regions whose order is the text's. -/
set_option linter.unusedVariables false
set_option linter.unusedSimpArgs false
namespace Go.Proofs.Ytinopkpnlibopaa.Ab
open Go.RowKit

section
variable {P : Program} {E : Env} {c : Ctx} {R : Type} {r : R}

theorem Rel.congr {s s' : St} {a : Act} {w : World} {μ : Nat → Value} {Nm : Nat → Prop} (h : Rel c s a w μ Nm) (h1 : ∀ x, s'.sl x = s.sl x) (h2 : ∀ n, s'.mem n = s.mem n) (h3 : s'.n = s.n) (h4 : s'.np = s.np := by rfl) : Rel c s' a w μ Nm := by
  have e1 : s'.sl = s.sl := funext h1
  have e2 : s'.mem = s.mem := funext h2
  exact ⟨by rw [h3]; exact h.size, by rw [h4]; exact h.np, h.pins, h.defers, h.below, by rw [e2]; exact h.names, by rw [e2]; exact h.objs, by rw [e2]; exact h.dist, by rw [e1, e2]; exact h.slots⟩

/-- An operation in its place does what is told of it. -/
def StepOK (P : Program) (c : Ctx) (ops : Array Oper) (o : Oper) (s : St) (b : Nat) (e : Eff) : Prop :=
  ∀ (s' : St) (a : Act) (w : World) (μ : Nat → Value) (Nm : Nat → Prop) (next : Act → World → Prop) (Q : Exit → Act → World → Prop),
    (∀ t ∈ lookT ops.toList o, s'.sl t = s.sl t) → s'.n = s.n → (∀ n ∈ e.nm, s'.mem n = s.mem n) → Rel c s' a w μ Nm → (∀ n, b ≤ n → n < b + 64 → ¬ Nm n) →
    (∀ a' w' μ' Nm', Rel c (s'.app o.dst e) a' w' μ' Nm' → (∀ n, Nm' n → Nm n ∨ (b ≤ n ∧ n < b + 64)) → next a' w') →
    if Region.wanted o (yielded ops a.tmps) then o.wp P a w next Q else next (a.put o.dst undef) w

theorem stepOp_ok (hE : EnvOK P E) {k : Nat} {ops : Array Oper} {o : Oper} {b : Nat} {s : St} {κ : Eff → Option R} (h : stepOp E k ops.toList o b s κ = some r) : ∃ e, κ e = some r ∧ (freshB s.mem b e.upd = true → StepOK P c ops o s b e) := by
  unfold stepOp at h
  split at h
  · cases h
  · rename_i hdst
    have hd : ∀ d, o.dst = some d → d < s.n := by
      intro d hd
      rw [hd] at hdst
      exact Nat.blt_eq.mp hdst
    have agree : ∀ {s' : St} {nm : List Nat}, (∀ t ∈ lookT ops.toList o, s'.sl t = s.sl t) → s'.n = s.n → (∀ n ∈ nm, s'.mem n = s.mem n) → Agree o s s' nm := by
      intro s' nm h1 h2 h3
      refine ⟨fun x hx => ?_, h2, h3⟩
      cases x with
      | tmp t =>
        simp only [St.op]
        refine h1 t ?_
        simp only [lookT, List.mem_append]
        exact .inl (List.mem_filterMap.2 ⟨.tmp t, hx, rfl⟩)
      | _ => rfl
    split at h
    · rename_i hg
      obtain ⟨e, h1, h2⟩ := absOp_ok (c := c) hE h
      refine ⟨e, h1, fun hf s' a w μ Nm next Q hl hn hm hr hfr hnext => ?_⟩
      have hw : Region.wanted o (yielded ops a.tmps) = true := by simp [Region.wanted, hg]
      rw [if_pos hw]
      exact h2 hf s' a w μ Nm next Q (agree hl hn hm) hr hfr (by rw [hn]; exact hd) hnext
    · rename_i g want hg
      split at h
      · rename_i og hog
        split at h
        · rename_i d hgd
          split at h
          · rename_i t ht
            have hy : ∀ (s' : St) (a : Act) (w : World) μ Nm, (∀ t ∈ lookT ops.toList o, s'.sl t = s.sl t) → Rel c s' a w μ Nm → yielded ops a.tmps g = some t := by
              intro s' a w μ Nm hl hr
              have hog' : ops[g]? = some og := by rw [← Array.getElem?_toList]; exact hog
              have h1 := hr.slots d
              rw [hl d (by
                simp only [lookT, List.mem_append]
                refine .inr ?_
                rw [hg]
                simp only [hog, Option.bind_some, hgd, Option.mem_toList]), ht] at h1
              simp only [VRel] at h1
              have h2 : a.tmps[d]? = some (.bool t) := by
                rw [Array.getD_eq_getD_getElem?] at h1
                cases hh : a.tmps[d]? with
                | none => rw [hh] at h1; cases h1
                | some v => rw [hh] at h1; simpa using h1
              simp [yielded, hog', hgd, h2]
            by_cases htw : (t == want) = true
            · rw [if_pos htw] at h
              obtain ⟨e, h1, h2⟩ := absOp_ok (c := c) hE h
              refine ⟨e, h1, fun hf s' a w μ Nm next Q hl hn hm hr hfr hnext => ?_⟩
              have hw : Region.wanted o (yielded ops a.tmps) = true := by
                simp only [Region.wanted, hg]
                rw [hy s' a w μ Nm hl hr]
                have : t = want := by simpa using htw
                rw [this]; simp
              rw [if_pos hw]
              exact h2 hf s' a w μ Nm next Q (agree hl hn hm) hr hfr (by rw [hn]; exact hd) hnext
            · rw [if_neg htw] at h
              refine ⟨_, h, fun hf s' a w μ Nm next Q hl hn hm hr hfr hnext => ?_⟩
              have hw : ¬ Region.wanted o (yielded ops a.tmps) = true := by
                simp only [Region.wanted, hg]
                rw [hy s' a w μ Nm hl hr]
                simpa using htw
              rw [if_neg hw]
              refine hnext _ _ μ Nm ?_ (fun n h => .inl h)
              rw [app_nil]
              exact hr.put o.dst (by rw [hn]; exact hd) (by simp only [VRel])
          · rename_i ht
            refine ⟨_, h, fun hf s' a w μ Nm next Q hl hn hm hr hfr hnext => ?_⟩
            have hy : yielded ops a.tmps g = none := by
              have hog' : ops[g]? = some og := by rw [← Array.getElem?_toList]; exact hog
              have h1 := hr.slots d
              rw [hl d (by
                simp only [lookT, List.mem_append]
                refine .inr ?_
                rw [hg]
                simp only [hog, Option.bind_some, hgd, Option.mem_toList]), ht] at h1
              simp only [VRel] at h1
              rw [Array.getD_eq_getD_getElem?] at h1
              cases hh : a.tmps[d]? with
              | none => simp [yielded, hog', hgd, hh]
              | some v => rw [hh] at h1; simp only [Option.getD_some] at h1; subst h1; simp [yielded, hog', hgd, hh, undef]
            have hw : ¬ Region.wanted o (yielded ops a.tmps) = true := by
              simp only [Region.wanted, hg]
              rw [hy]
              simp
            rw [if_neg hw]
            refine hnext _ _ μ Nm ?_ (fun n h => .inl h)
            rw [app_nil]
            exact hr.put o.dst (by rw [hn]; exact hd) (by simp only [VRel])
          · cases h
        · cases h
      · cases h

theorem frcN_eq (n : Nat) (κ : Nat → R) : frcN n κ = κ n := by cases n <;> rfl
theorem frcI_eq (n : Int) (κ : Int → R) : frcI n κ = κ n := by cases n <;> simp only [frcI, frcN_eq]
theorem frcL_eq {α : Type} {f : α → (α → R) → R} (hf : ∀ x κ, f x κ = κ x) : ∀ (xs : List α) (κ : List α → R), frcL f xs κ = κ xs
  | [], κ => rfl
  | x :: r, κ => by simp only [frcL]; rw [hf, frcL_eq hf r]
theorem step_eq (s : St) (d : Option Tmp) (e : Eff) (nx : Nat) : s.step d e nx = { s.app d e with nxt := nx } := by cases d <;> rfl

theorem splitS_ok {d : Nat} {s : St} {κ : St → Option R} (h : splitS d s κ = some r) : κ s = some r := by
  unfold splitS at h
  split at h
  · rename_i t ht
    have hs : ∀ b, s.sl d = .bool b → { s with sl := setS s.sl d (.bool b) } = s := fun b hb => by
      have : setS s.sl d (.bool b) = s.sl := by
        funext x
        rw [setS_get]
        split
        · rename_i e; rw [← e, hb]
        · rfl
      rw [this]
    cases t with
    | true => simp only at h; rw [hs true ht] at h; exact h
    | false => simp only at h; rw [hs false ht] at h; exact h
  · exact h
  · cases h
theorem splitO_ok {c : Operand} {s : St} {κ : St → Option R} (h : splitO c s κ = some r) : κ s = some r := by
  unfold splitO at h
  split at h
  · exact splitS_ok h
  · exact h
theorem splitG_ok {all : List Oper} {o : Oper} {s : St} {κ : St → Option R} (h : splitG all o s κ = some r) : κ s = some r := by
  unfold splitG at h
  split at h
  · exact h
  · split at h
    · split at h
      · exact splitS_ok h
      · cases h
    · cases h

theorem seqOps_ok (hE : EnvOK P E) {k : Nat} {ops : Array Oper} {κ : St → Option R} {Q : Exit → Act → World → Prop} : ∀ (l : List Oper) (i : Nat), ops.toList.drop i = l → ∀ (s : St), seqOps E k ops.toList l κ s = some r → ∀ (a : Act) (w : World) (μ : Nat → Value) (Nm : Nat → Prop), Rel c s a w μ Nm → (∀ n, Nm n → n < s.nxt) →
    (∀ s' a' w' μ' Nm', κ s' = some r → s'.n = s.n → Rel c s' a' w' μ' Nm' → (∀ n, Nm' n → n < s'.nxt) → Q .normal a' w') → wpOps P ops Q (List.range' i l.length) a w
  | [], i, hi, s, h, a, w, μ, Nm, hr, hN, hQ => by
    simp only [seqOps] at h
    simp only [List.length_nil, List.range'_zero, wpOps]
    exact hQ s a w μ Nm h rfl hr hN
  | o :: l, i, hi, s, h, a, w, μ, Nm, hr, hN, hQ => by
    simp only [seqOps] at h
    obtain ⟨e, h1, h2⟩ := stepOp_ok (c := c) hE (splitG_ok h)
    split at h1
    · rename_i hf
      rw [frcN_eq, step_eq] at h1
      have hoi : ops[i]? = some o := by
        rw [← Array.getElem?_toList]
        have := congrArg (·[0]?) hi
        simpa using this
      have hdr : ops.toList.drop (i + 1) = l := by
        have := congrArg (·.drop 1) hi
        simpa [List.drop_drop] using this
      simp only [List.length_cons, List.range'_succ]
      rw [wpOps_cons]
      unfold wpOp
      rw [hoi]
      have key := h2 hf s a w μ Nm (wpOps P ops Q (List.range' (i + 1) l.length)) Q (fun _ _ => rfl) rfl (fun _ _ => rfl) hr (fun n hb hb' hn => by have := hN n hn; omega) (fun a' w' μ' Nm' hr' hN' => by
        refine seqOps_ok hE l (i + 1) hdr _ h1 a' w' μ' Nm' (hr'.congr (fun _ => rfl) (fun _ => rfl) rfl) (fun n hn => ?_) (fun s' a2 w2 μ2 Nm2 hk hn hr2 hN2 => hQ s' a2 w2 μ2 Nm2 hk ?_ hr2 hN2)
        · show n < s.nxt + 64
          rcases hN' n hn with h3 | h3
          · have := hN n h3; omega
          · exact h3.2
        · rw [hn]
          show (s.app o.dst e).n = s.n
          cases hd : o.dst <;> simp [St.app, St.put])
      simp only
      by_cases hw : Region.wanted o (yielded ops a.tmps) = true
      · rw [if_pos hw] at key ⊢; exact .inl key
      · rw [if_neg hw] at key ⊢; exact key
    · cases h1
end
end Go.Proofs.Ytinopkpnlibopaa.Ab
