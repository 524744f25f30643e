import Derived.Test.YtinopkpnlibopaaAbRel2
/- Cells and typed values: taken apart, put together. -/
set_option linter.unusedVariables false
set_option linter.unusedSimpArgs false
namespace Go.Proofs.Ytinopkpnlibopaa.Ab
open Go.RowKit

section
variable {μ : Nat → Value} {Nm : Nat → Prop} {S : Nat → Prop} {w : World} {c : Ctx} {m : Nat → Option Obj}

theorem castL_eq {t t' : Ty} {xs : List t.D} {ys : List t'.D} (h : castL t t' xs = some ys) : ∃ e : t = t', ys = e ▸ xs := by
  unfold castL at h
  split at h
  · rename_i hb
    injection h with h
    exact ⟨Ty.beq_eq hb, h.symm⟩
  · cases h

theorem FK_pair_mk {α β : Type} {a : Kd α} {b : Kd β} {ok : Nat → Prop} {x : α × β} {c0 c1 : List Value} (h0 : Kd.FK a w ok x.1 c0) (h1 : Kd.FK b w ok x.2 c1) : Kd.FK (Kd.pair a b) w ok x (c0 ++ c1) := ⟨c0, c1, rfl, h0, h1⟩

theorem unpack_rel : ∀ (t : Ty) (x : t.D) (cs : List Value), Kd.FK t.kd w S x cs → VRels μ Nm S w (unpack t x) cs
  | .unit, _, cs, h => by
    have : cs = [] := h
    subst this; simp [unpack, VRels]
  | .int k, n, cs, h => by
    have : cs = [.int k n] := h
    subst this; simp [unpack, VRels, VRel]
  | .bool, b, cs, h => by
    have : cs = [.bool b] := h
    subst this; simp [unpack, VRels, VRel]
  | .str, b, cs, h => by
    have : cs = [.string b] := h
    subst this; simp [unpack, VRels, VRel]
  | .sl e t, xs, cs, h => by
    obtain ⟨A, cp, rfl, hl, hf⟩ := h
    simp only [unpack, VRels, VRel, and_true]
    exact Kd.V_mk hl hf
  | .pair a b, p, cs, h => by
    obtain ⟨c0, c1, rfl, h0, h1⟩ := h
    simp only [unpack]
    exact VRels_append (unpack_rel a p.1 c0 h0) (unpack_rel b p.2 c1 h1)

theorem unpack_len : ∀ (t : Ty) (x : t.D), (unpack t x).length = t.sz
  | .unit, _ => rfl | .int _, _ => rfl | .bool, _ => rfl | .str, _ => rfl | .sl _ _, _ => rfl
  | .pair a b, p => by simp [unpack, Ty.sz, unpack_len a, unpack_len b]

/-- The stable blocks, and those of some rows. -/
def withB (μ : Nat → Value) (m : Nat → Option Obj) (S : Nat → Prop) (ns : List Nat) : Nat → Prop := fun k => S k ∨ ∃ n ∈ ns, liveN m n = true ∧ blk (μ n) = some k

theorem withB_nil {k : Nat} (h : withB μ m S [] k) : S k := by
  rcases h with h | ⟨n, hn, _⟩
  · exact h
  · cases hn
theorem withB_left {ns ns' : List Nat} {k : Nat} (h : withB μ m S ns k) : withB μ m S (ns ++ ns') k := h.imp id (fun ⟨n, hn, hb⟩ => ⟨n, List.mem_append_left _ hn, hb⟩)
theorem withB_right {ns ns' : List Nat} {k : Nat} (h : withB μ m S ns' k) : withB μ m S (ns ++ ns') k := h.imp id (fun ⟨n, hn, hb⟩ => ⟨n, List.mem_append_right _ hn, hb⟩)

theorem row_V {n : Nat} {f : Bool} {e : TypeId} {t : Ty} {xs : List t.D} (hn : m n = some (.row f e t xs)) (h : ORel c μ Nm S w n (.row f e t xs)) : Kd.V t.kd e w 0 (withB μ m S [n]) (μ n) xs := by
  cases f with
  | true =>
    simp only [ORel] at h
    refine Kd.V_mono (Kd.N_V h.1) (fun k hk => ?_)
    rcases hk with hk | hk
    · exact .inl hk
    · exact .inr ⟨n, List.mem_singleton.2 rfl, by simp [liveN, hn], own_blk hk.symm⟩
  | false =>
    simp only [ORel] at h
    exact Kd.V_mono h (fun k hk => .inl hk)

theorem rowOf_rel (hm : ∀ n o, m n = some o → ORel c μ Nm S w n o) {e : TypeId} {t : Ty} {v : AV} {x : Value} {xs : List t.D} {ns : List Nat} (h : rowOf m e t v = some (xs, ns)) (hv : VRel μ Nm S w v x) : Kd.V t.kd e w 0 (withB μ m S ns) x xs := by
  unfold rowOf at h
  split at h
  · injection h with h; injection h with h1 h2; subst h1; subst h2
    simp only [VRel] at hv; subst hv
    exact Kd.V_nil _ _ _ _ _
  · rename_i e' t' ys
    split at h
    · rename_i he
      have := Nat.eq_of_beq_eq_true he; subst this
      split at h
      · rename_i zs hc
        injection h with h; injection h with h1 h2; subst h1; subst h2
        obtain ⟨rfl, rfl⟩ := castL_eq hc
        simp only [VRel] at hv
        exact Kd.V_mono hv (fun k hk => .inl hk)
      · cases h
    · cases h
  · rename_i n z l hh
    split at h
    · rename_i f e' t' ys hn
      split at h
      · rename_i hb
        simp only [Bool.and_eq_true] at hb
        obtain ⟨he, hz⟩ := hb
        have := Nat.eq_of_beq_eq_true he; subst this
        have hz := Nat.eq_of_beq_eq_true hz
        split at h
        · rename_i zs hc
          injection h with h; injection h with q1 q2; subst q1; subst q2
          obtain ⟨rfl, rfl⟩ := castL_eq hc
          simp only [VRel] at hv
          obtain ⟨_, h0, h1, A, len, cap, g1, g2, g3, g4⟩ := hv
          have hV := row_V hn (hm n _ hn)
          rw [g1] at hV
          obtain ⟨A', cp, e1, hl, hF⟩ := hV
          injection e1 with e1 e2 e3
          subst e1; subst e2; subst e3
          have hF2 := Kd.F_mid hF (lo := l.toNat) (hi := hh.toNat) (by omega) (by omega) hl
          rw [kd_sz, ← hz] at hF2
          have hlen : ((zs.take hh.toNat).drop l.toNat).length = hh.toNat - l.toNat := by simp; omega
          rw [g4, ← hlen]
          exact Kd.V_mk (by rw [hlen]; omega) hF2
        · cases h
      · cases h
    · cases h
  · rename_i z e' t' ys
    split at h
    · rename_i he
      have := Nat.eq_of_beq_eq_true he; subst this
      split at h
      · rename_i zs hc
        injection h with h; injection h with h1 h2; subst h1; subst h2
        obtain ⟨rfl, rfl⟩ := castL_eq hc
        simp only [VRel] at hv
        exact Kd.V_mono hv.1 (fun k hk => .inl hk)
      · cases h
    · cases h
  · rename_i n
    split at h
    · rename_i f e' t' ys hn
      split at h
      · rename_i he
        have := Nat.eq_of_beq_eq_true he; subst this
        split at h
        · rename_i zs hc
          injection h with h; injection h with h1 h2; subst h1; subst h2
          obtain ⟨rfl, rfl⟩ := castL_eq hc
          simp only [VRel] at hv
          rw [hv.2.1]
          exact row_V hn (hm n _ hn)
        · cases h
      · cases h
    · cases h
  · cases h

theorem rowOf_mem {e : TypeId} {t : Ty} {v : AV} {xs : List t.D} {ns : List Nat} (h : rowOf m e t v = some (xs, ns)) : ∀ n ∈ ns, ∃ f e' t' ys, m n = some (.row f e' t' ys) := by
  unfold rowOf at h
  split at h
  · injection h with h; injection h with h1 h2; subst h2; simp
  · split at h
    · split at h
      · injection h with h; injection h with h1 h2; subst h2; simp
      · cases h
    · cases h
  · rename_i n z l hh
    split at h
    · rename_i f e' t' ys hn
      split at h
      · split at h
        · injection h with h; injection h with h1 h2; subst h2
          intro n' hn'
          rw [List.mem_singleton.1 hn']
          exact ⟨f, e', t', ys, hn⟩
        · cases h
      · cases h
    · cases h
  · split at h
    · split at h
      · injection h with h; injection h with h1 h2; subst h2; simp
      · cases h
    · cases h
  · rename_i n
    split at h
    · rename_i f e' t' ys hn
      split at h
      · split at h
        · injection h with h; injection h with h1 h2; subst h2
          intro n' hn'
          rw [List.mem_singleton.1 hn']
          exact ⟨f, e', t', ys, hn⟩
        · cases h
      · cases h
    · cases h
  · cases h

theorem ownOf_rel (hm : ∀ n o, m n = some o → ORel c μ Nm S w n o) {e : TypeId} {t : Ty} {v : AV} {x : Value} {xs : List t.D} {ns : List Nat} (h : ownOf m e t v = some (xs, ns)) (hv : VRel μ Nm S w v x) :
    NX c e w (fun k => S k ∨ some k = x.ownBlock) x xs ∧ ((ns = [] ∧ x = .slice none 0 0 ∧ xs = []) ∨ ∃ n, ns = [n] ∧ x = μ n ∧ m n = some (.row true e t xs)) := by
  unfold ownOf at h
  split at h
  · injection h with h; injection h with h1 h2; subst h1; subst h2
    simp only [VRel] at hv; subst hv
    exact ⟨⟨Kd.N_nil _ _ _ _ _, fun k hk => by cases hk⟩, .inl ⟨rfl, rfl, rfl⟩⟩
  · rename_i n
    split at h
    · rename_i e' t' ys hn
      split at h
      · rename_i he
        have := Nat.eq_of_beq_eq_true he; subst this
        split at h
        · rename_i zs hc
          injection h with h; injection h with h1 h2; subst h1; subst h2
          obtain ⟨rfl, rfl⟩ := castL_eq hc
          simp only [VRel] at hv
          have ho := hm n _ hn
          simp only [ORel] at ho
          rw [hv.2.1]
          exact ⟨ho, .inr ⟨n, rfl, rfl, hn⟩⟩
        · cases h
      · cases h
    · cases h
  · cases h

theorem pack_rel (hm : ∀ n o, m n = some o → ORel c μ Nm S w n o) : ∀ (t : Ty) (cs : List AV) (x : t.D) (r : List AV) (ns : List Nat) (vs : List Value), pack m t cs = some (x, r, ns) → VRels μ Nm S w cs vs →
    ∃ v0 v1, vs = v0 ++ v1 ∧ Kd.FK t.kd w (withB μ m S ns) x v0 ∧ VRels μ Nm S w r v1 := by
  intro t
  induction t with
  | unit =>
    intro cs x r ns vs h hv
    simp only [pack] at h
    injection h with h; injection h with h1 h2; injection h2 with h2 h3; subst h2; subst h3
    exact ⟨[], vs, rfl, rfl, hv⟩
  | int k =>
    intro cs x r ns vs h hv
    cases cs with
    | nil => simp [pack] at h
    | cons c0 cs =>
      cases vs with
      | nil => simp only [VRels] at hv
      | cons v vs =>
        simp only [VRels] at hv
        cases c0 <;> simp only [pack] at h <;> try (cases h; done)
        rename_i k' n
        split at h
        · rename_i he
          have := ikEq_eq he; subst this
          injection h with h; injection h with h1 h2; injection h2 with h2 h3; subst h1; subst h2; subst h3
          have hv1 := hv.1
          simp only [VRel] at hv1; subst hv1
          exact ⟨[.int k n], vs, rfl, rfl, hv.2⟩
        · cases h
  | bool =>
    intro cs x r ns vs h hv
    cases cs with
    | nil => simp [pack] at h
    | cons c0 cs =>
      cases vs with
      | nil => simp only [VRels] at hv
      | cons v vs =>
        simp only [VRels] at hv
        cases c0 <;> simp only [pack] at h <;> try (cases h; done)
        rename_i b
        injection h with h; injection h with h1 h2; injection h2 with h2 h3; subst h1; subst h2; subst h3
        have hv1 := hv.1
        simp only [VRel] at hv1; subst hv1
        exact ⟨[.bool b], vs, rfl, rfl, hv.2⟩
  | str =>
    intro cs x r ns vs h hv
    cases cs with
    | nil => simp [pack] at h
    | cons c0 cs =>
      cases vs with
      | nil => simp only [VRels] at hv
      | cons v vs =>
        simp only [VRels] at hv
        cases c0 <;> simp only [pack] at h <;> try (cases h; done)
        rename_i b
        injection h with h; injection h with h1 h2; injection h2 with h2 h3; subst h1; subst h2; subst h3
        have hv1 := hv.1
        simp only [VRel] at hv1; subst hv1
        exact ⟨[.string b], vs, rfl, rfl, hv.2⟩
  | sl e t _ =>
    intro cs x r ns vs h hv
    cases cs with
    | nil => simp [pack] at h
    | cons c0 cs =>
      cases vs with
      | nil => simp only [VRels] at hv
      | cons v vs =>
        simp only [VRels] at hv
        have key : ∀ ys ms, rowOf m e t c0 = some (ys, ms) → x = ys → r = cs → ns = ms → ∃ v0 v1, v :: vs = v0 ++ v1 ∧ Kd.FK (Ty.sl e t).kd w (withB μ m S ns) x v0 ∧ VRels μ Nm S w r v1 := by
          intro ys ms hr h1 h2 h3
          subst h1; subst h2; subst h3
          obtain ⟨A, cc, rfl, hl, hf⟩ := rowOf_rel hm hr hv.1
          exact ⟨[_], vs, rfl, ⟨A, cc, rfl, hl, hf⟩, hv.2⟩
        simp only [pack] at h
        split at h
        · rename_i ys ms hr
          injection h with h; injection h with h1 h2; injection h2 with h2 h3
          exact key ys ms hr h1.symm h2.symm h3.symm
        · cases h
  | pair a b iha ihb =>
    intro cs x r ns vs h hv
    simp only [pack] at h
    split at h
    · rename_i x1 r1 ns1 h1
      split at h
      · rename_i x2 r2 ns2 h2
        injection h with h; injection h with e1 e2; injection e2 with e2 e3; subst e1; subst e2; subst e3
        obtain ⟨v0, v1, rfl, f0, g0⟩ := iha _ _ _ _ _ h1 hv
        obtain ⟨u0, u1, rfl, f1, g1⟩ := ihb _ _ _ _ _ h2 g0
        exact ⟨v0 ++ u0, u1, by simp, FK_pair_mk (Kd.FK_mono f0 (fun k hk => withB_left hk)) (Kd.FK_mono f1 (fun k hk => withB_right hk)), g1⟩
      · cases h
    · cases h

theorem pack_mem : ∀ (t : Ty) (cs : List AV) (x : t.D) (r : List AV) (ns : List Nat), pack m t cs = some (x, r, ns) → ∀ n ∈ ns, ∃ f e' t' ys, m n = some (.row f e' t' ys) := by
  intro t
  induction t with
  | unit => intro cs x r ns h; simp only [pack] at h; injection h with h; injection h with h1 h2; injection h2 with h2 h3; subst h3; simp
  | int k =>
    intro cs x r ns h
    cases cs with
    | nil => simp [pack] at h
    | cons c0 cs =>
      cases c0 <;> simp only [pack] at h <;> try (cases h; done)
      split at h
      · injection h with h; injection h with h1 h2; injection h2 with h2 h3; subst h3; simp
      · cases h
  | bool =>
    intro cs x r ns h
    cases cs with
    | nil => simp [pack] at h
    | cons c0 cs =>
      cases c0 <;> simp only [pack] at h <;> try (cases h; done)
      injection h with h; injection h with h1 h2; injection h2 with h2 h3; subst h3; simp
  | str =>
    intro cs x r ns h
    cases cs with
    | nil => simp [pack] at h
    | cons c0 cs =>
      cases c0 <;> simp only [pack] at h <;> try (cases h; done)
      injection h with h; injection h with h1 h2; injection h2 with h2 h3; subst h3; simp
  | sl e t _ =>
    intro cs x r ns h
    cases cs with
    | nil => simp [pack] at h
    | cons c0 cs =>
      simp only [pack] at h
      split at h
      · rename_i ys ms hr
        injection h with h; injection h with h1 h2; injection h2 with h2 h3; subst h3
        exact rowOf_mem hr
      · cases h
  | pair a b iha ihb =>
    intro cs x r ns h
    simp only [pack] at h
    split at h
    · rename_i x1 r1 ns1 h1
      split at h
      · rename_i x2 r2 ns2 h2
        injection h with h; injection h with e1 e2; injection e2 with e2 e3; subst e3
        intro n hn
        rcases List.mem_append.1 hn with hn | hn
        · exact iha _ _ _ _ h1 n hn
        · exact ihb _ _ _ _ h2 n hn
      · cases h
    · cases h

theorem rowOf_congr {m' : Nat → Option Obj} {e : TypeId} {t : Ty} {v : AV} {xs : List t.D} {ns : List Nat} (h : rowOf m e t v = some (xs, ns)) (hm : ∀ n ∈ ns, m' n = m n) : rowOf m' e t v = some (xs, ns) := by
  cases v with
  | own n =>
    have h1 : ns = [n] := by
      simp only [rowOf] at h
      split at h
      · split at h
        · split at h
          · injection h with h; injection h with _ h2; exact h2.symm
          · cases h
        · cases h
      · cases h
    rw [← h]
    simp only [rowOf]
    rw [hm n (by rw [h1]; simp)]
  | vw n z l hh =>
    have h1 : ns = [n] := by
      simp only [rowOf] at h
      split at h
      · split at h
        · split at h
          · injection h with h; injection h with _ h2; exact h2.symm
          · cases h
        · cases h
      · cases h
    rw [← h]
    simp only [rowOf]
    rw [hm n (by rw [h1]; simp)]
  | _ => exact h

theorem pack_congr {m' : Nat → Option Obj} : ∀ (t : Ty) (cs : List AV) (x : t.D) (r : List AV) (ns : List Nat), pack m t cs = some (x, r, ns) → (∀ n ∈ ns, m' n = m n) → pack m' t cs = some (x, r, ns) := by
  intro t
  induction t with
  | unit => intro cs x r ns h _; exact h
  | int k =>
    intro cs x r ns h _
    cases cs with
    | nil => simp [pack] at h
    | cons c0 cs => cases c0 <;> first | exact h | (simp only [pack] at h; cases h)
  | bool =>
    intro cs x r ns h _
    cases cs with
    | nil => simp [pack] at h
    | cons c0 cs => cases c0 <;> first | exact h | (simp only [pack] at h; cases h)
  | str =>
    intro cs x r ns h _
    cases cs with
    | nil => simp [pack] at h
    | cons c0 cs => cases c0 <;> first | exact h | (simp only [pack] at h; cases h)
  | sl e t _ =>
    intro cs x r ns h hm
    cases cs with
    | nil => simp [pack] at h
    | cons c0 cs =>
      simp only [pack] at h ⊢
      split at h
      · rename_i ys ms hr
        injection h with h; injection h with h1 h2; injection h2 with h2 h3; subst h1; subst h2; subst h3
        rw [rowOf_congr hr hm]
      · cases h
  | pair a b iha ihb =>
    intro cs x r ns h hm
    simp only [pack] at h ⊢
    split at h
    · rename_i x1 r1 ns1 h1
      split at h
      · rename_i x2 r2 ns2 h2
        injection h with h; injection h with e1 e2; injection e2 with e2 e3; subst e1; subst e2; subst e3
        rw [iha _ _ _ _ h1 (fun n hn => hm n (List.mem_append_left _ hn))]
        simp only
        rw [ihb _ _ _ _ h2 (fun n hn => hm n (List.mem_append_right _ hn))]
      · cases h
    · cases h
end
end Go.Proofs.Ytinopkpnlibopaa.Ab
