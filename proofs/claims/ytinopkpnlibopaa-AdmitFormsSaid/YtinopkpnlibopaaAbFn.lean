import Derived.Test.YtinopkpnlibopaaAbEval
/- Functions: what the evaluator answers of a body is its contract. -/
set_option linter.unusedVariables false
set_option linter.unusedSimpArgs false
namespace Go.Proofs.Ytinopkpnlibopaa.Ab
open Go.RowKit

section
variable {P : Program} {E : Env} {c : Ctx}
variable {m : Nat → Option Obj} {μ μ' : Nat → Value} {Nm Nm' S S' : Nat → Prop} {w : World}

def valO (μ : Nat → Value) : Option Nat → Value
  | some n => μ n
  | none => .slice none 0 0

def nthO (l : List (Option Nat)) (i : Nat) : Option Nat := (l[i]?).join

theorem nthO_l {l l' : List (Option Nat)} {i : Nat} (h : i < l.length) : nthO (l ++ l') i = nthO l i := by simp [nthO, List.getElem?_append_left h]
theorem nthO_r {l l' : List (Option Nat)} {i : Nat} : nthO (l ++ l') (l.length + i) = nthO l' i := by
  rw [nthO, List.getElem?_append_right (by omega), Nat.add_sub_cancel_left]; rfl

theorem flat_E : ∀ t : Ty, t.flat = true → flatE t = true
  | .unit, _ | .int _, _ | .bool, _ | .str, _ => rfl
  | .sl _ _, h => by cases h
  | .pair a b, h => by
    simp only [Ty.flat, Bool.and_eq_true] at h
    simp only [flatE, Bool.and_eq_true]
    exact ⟨flat_E a h.1, flat_E b h.2⟩

theorem impC_false : ∀ (t : Ty) (x : t.D) (b : Nat), impC false t x b = (unpack t x, [], b)
  | .unit, _, _ => rfl
  | .int _, _, _ => rfl
  | .bool, _, _ => rfl
  | .str, _, _ => rfl
  | .sl _ _, _, _ => rfl
  | .pair t u, x, b => by simp [impC, unpack, impC_false t, impC_false u]

theorem nodup_nth : ∀ {l : List (Option Nat)} {i j a b : Nat}, (l.filterMap id).Nodup → nthO l i = some a → nthO l j = some b → i ≠ j → a ≠ b
  | [], i, j, a, b, _, h, _, _ => by simp [nthO] at h
  | x :: l, i, j, a, b, hn, hi, hj, hij => by
    have mem : ∀ {k d}, nthO l k = some d → d ∈ l.filterMap id := by
      intro k d h
      simp only [nthO, Option.join_eq_some_iff] at h
      exact List.mem_filterMap.2 ⟨some d, List.mem_of_getElem? h, rfl⟩
    have hn' : (l.filterMap id).Nodup := by
      cases x with
      | none => simpa using hn
      | some y => simp only [List.filterMap_cons_some (f := id) (b := y) rfl] at hn; exact (List.nodup_cons.1 hn).2
    cases i with
    | zero =>
      cases j with
      | zero => exact absurd rfl hij
      | succ j =>
        have hx : x = some a := by simpa [nthO] using hi
        subst hx
        have hj' : nthO l j = some b := by simpa [nthO] using hj
        simp only [List.filterMap_cons_some (f := id) (b := a) rfl] at hn
        exact fun e => (List.nodup_cons.1 hn).1 (by rw [e]; exact mem hj')
    | succ i =>
      have hi' : nthO l i = some a := by simpa [nthO] using hi
      cases j with
      | zero =>
        have hx : x = some b := by simpa [nthO] using hj
        subst hx
        simp only [List.filterMap_cons_some (f := id) (b := b) rfl] at hn
        exact fun e => (List.nodup_cons.1 hn).1 (by rw [← e]; exact mem hi')
      | succ j =>
        have hj' : nthO l j = some b := by simpa [nthO] using hj
        exact nodup_nth hn' hi' hj' (by omega)

structure Out (c : Ctx) (μ : Nat → Value) (w : World) (b : Nat) (Ln : List (Option Nat)) (us : List (Nat × Option Obj)) (cs : List AV) (vs : List Value) (flat : Bool) (Sx : Nat → Prop) : Prop where
  go : ∀ (μ' : Nat → Value) (Nm' S' : Nat → Prop), (∀ i, i < Ln.length → μ' (b + i) = valO μ (nthO Ln i)) → (∀ i, i < Ln.length → Nm' (b + i)) → (flat = true ∨ ∀ k, Sx k → S' k) →
    VRels μ' Nm' S' w cs vs ∧ ∀ q ∈ us, ∃ i o, i < Ln.length ∧ q = (b + i, some o) ∧ o.live = true ∧ ORel c μ' Nm' S' w (b + i) o

theorem out_cells (hm : ∀ n o, m n = some o → ORel c μ Nm S w n o) : ∀ (t : Ty) (cs : List AV) (x : t.D) (rest : List AV) (ns : List Nat) (vs : List Value) (b : Nat), pack m t cs = some (x, rest, ns) → ownCells m cs = true → VRels μ Nm S w cs vs →
    ownCells m rest = true ∧ (∀ n ∈ ns, ∃ o, m n = some o ∧ o.live = true) ∧ ∃ (Ln : List (Option Nat)) (v0 v1 : List Value), Ln.filterMap id = ns ∧ (impC true t x b).2.2 = b + Ln.length ∧ vs = v0 ++ v1 ∧ VRels μ Nm S w rest v1 ∧ Out c μ w b Ln (impC true t x b).2.1 (impC true t x b).1 v0 (flatE t) S := by
  intro t
  have scalar : ∀ (t : Ty) (c0 : AV) (cs : List AV) (x : t.D) (v : Value) (vs : List Value) (b : Nat), ownCells m (c0 :: cs) = true → VRels μ Nm S w (c0 :: cs) (v :: vs) → impC true t x b = ([c0], [], b) → (∀ μ' Nm' S', VRel μ' Nm' S' w c0 v) →
      ownCells m cs = true ∧ (∀ n ∈ ([] : List Nat), ∃ o, m n = some o ∧ o.live = true) ∧ ∃ (Ln : List (Option Nat)) (v0 v1 : List Value), Ln.filterMap id = [] ∧ (impC true t x b).2.2 = b + Ln.length ∧ v :: vs = v0 ++ v1 ∧ VRels μ Nm S w cs v1 ∧ Out c μ w b Ln (impC true t x b).2.1 (impC true t x b).1 v0 (flatE t) S := by
    intro t c0 cs x v vs b ho hv hi hall
    simp only [ownCells, Bool.and_eq_true] at ho
    simp only [VRels] at hv
    refine ⟨ho.2, by simp, [], [v], vs, rfl, by rw [hi]; rfl, rfl, hv.2, ⟨fun μ' Nm' S' _ _ _ => ?_⟩⟩
    rw [hi]
    exact ⟨by simp only [VRels, and_true]; exact hall _ _ _, by simp⟩
  induction t with
  | unit =>
    intro cs x rest ns vs b h ho hv
    simp only [pack] at h
    injection h with h; injection h with h1 h2; injection h2 with h2 h3; subst h2; subst h3
    exact ⟨ho, by simp, [], [], vs, rfl, rfl, rfl, hv, ⟨fun _ _ _ _ _ _ => ⟨by simp only [impC, VRels], by simp [impC]⟩⟩⟩
  | int k =>
    intro cs x rest ns vs b h ho hv
    cases cs with
    | nil => simp [pack] at h
    | cons c0 cs =>
      cases vs with
      | nil => simp only [VRels] at hv
      | cons v vs =>
        cases c0 <;> simp only [pack] at h <;> try (cases h; done)
        split at h
        · rename_i he
          have := ikEq_eq he; subst this
          injection h with h; injection h with h1 h2; injection h2 with h2 h3; subst h1; subst h2; subst h3
          refine scalar (.int k) _ _ _ v vs b ho hv rfl (fun _ _ _ => ?_)
          simp only [VRels, VRel] at hv ⊢; exact hv.1
        · cases h
  | bool =>
    intro cs x rest ns vs b h ho hv
    cases cs with
    | nil => simp [pack] at h
    | cons c0 cs =>
      cases vs with
      | nil => simp only [VRels] at hv
      | cons v vs =>
        cases c0 <;> simp only [pack] at h <;> try (cases h; done)
        injection h with h; injection h with h1 h2; injection h2 with h2 h3; subst h1; subst h2; subst h3
        refine scalar .bool _ _ _ v vs b ho hv rfl (fun _ _ _ => ?_)
        simp only [VRels, VRel] at hv ⊢; exact hv.1
  | str =>
    intro cs x rest ns vs b h ho hv
    cases cs with
    | nil => simp [pack] at h
    | cons c0 cs =>
      cases vs with
      | nil => simp only [VRels] at hv
      | cons v vs =>
        cases c0 <;> simp only [pack] at h <;> try (cases h; done)
        injection h with h; injection h with h1 h2; injection h2 with h2 h3; subst h1; subst h2; subst h3
        refine scalar .str _ _ _ v vs b ho hv rfl (fun _ _ _ => ?_)
        simp only [VRels, VRel] at hv ⊢; exact hv.1
  | sl e t _ =>
    intro cs x rest ns vs b h ho hv
    cases cs with
    | nil => simp [pack] at h
    | cons c0 cs =>
      cases vs with
      | nil => simp only [VRels] at hv
      | cons v vs =>
        simp only [ownCells, Bool.and_eq_true] at ho
        simp only [VRels] at hv
        simp only [pack] at h
        split at h
        · rename_i ys ms hr
          injection h with h; injection h with q1 q2; injection q2 with q2 q3; subst q1; subst q2; subst q3
          cases c0 <;> first | (simp [ownCell] at ho; done) | (simp [rowOf] at hr; done) | skip
          · simp only [rowOf] at hr
            injection hr with hr; injection hr with h1 h2; subst h1; subst h2
            have hv1 := hv.1
            simp only [VRel] at hv1
            refine ⟨ho.2, by simp, [none], [v], vs, rfl, rfl, rfl, hv.2, ⟨fun μ' Nm' S' h1 h2 h3 => ?_⟩⟩
            have hb := h1 0 (by simp)
            have hn := h2 0 (by simp)
            simp only [nthO, valO, Nat.add_zero, List.getElem?_cons_zero, Option.join_some] at hb hn
            refine ⟨?_, fun q hq => ?_⟩
            · simp only [impC, VRels, VRel, and_true]
              exact ⟨hn, by rw [hb, hv1], by rw [hv1]; rfl⟩
            · simp only [impC, List.mem_singleton] at hq
              refine ⟨0, _, by simp, hq, rfl, ?_⟩
              simp only [ORel, Nat.add_zero]
              rw [hb]
              exact ⟨Kd.N_nil _ _ _ _ _, fun k hk => by cases hk⟩
          · rename_i n
            obtain ⟨hms, f, hmn⟩ := rowOf_own hr
            subst hms
            have hf : f = true := by
              have := ho.1
              simp only [ownCell, hmn] at this
              cases f <;> first | rfl | cases this
            subst hf
            have hv1 := hv.1
            simp only [VRel] at hv1
            have hob := hm n _ hmn
            simp only [ORel] at hob
            refine ⟨ho.2, fun n' hn' => by rw [List.mem_singleton.1 hn']; exact ⟨_, hmn, rfl⟩, [some n], [v], vs, rfl, rfl, rfl, hv.2, ⟨fun μ' Nm' S' h1 h2 h3 => ?_⟩⟩
            have hb := h1 0 (by simp)
            have hn := h2 0 (by simp)
            simp only [nthO, valO, Nat.add_zero, List.getElem?_cons_zero, Option.join_some] at hb hn
            refine ⟨?_, fun q hq => ?_⟩
            · simp only [impC, VRels, VRel, and_true]
              exact ⟨hn, by rw [hb, hv1.2.1], hv1.2.2⟩
            · simp only [impC, List.mem_singleton] at hq
              refine ⟨0, _, by simp, hq, rfl, ?_⟩
              simp only [ORel, Nat.add_zero]
              rw [hb]
              exact NX_turn h3 hob
        · cases h
  | pair t1 t2 ih1 ih2 =>
    intro cs x rest ns vs b h ho hv
    simp only [pack] at h
    split at h
    · rename_i x1 r1 ns1 h1
      split at h
      · rename_i x2 r2 ns2 h2
        injection h with h; injection h with e1 e2; injection e2 with e2 e3; subst e1; subst e2; subst e3
        obtain ⟨a1, a2, L1, v0, v1, a3, a4, rfl, a5, a6⟩ := ih1 _ _ _ _ _ b h1 ho hv
        obtain ⟨b1, b2, L2, u0, u1, b3, b4, rfl, b5, b6⟩ := ih2 _ _ _ _ _ (b + L1.length) h2 a1 a5
        refine ⟨b1, fun n hn => ?_, L1 ++ L2, v0 ++ u0, u1, by rw [List.filterMap_append, a3, b3], ?_, by simp, b5, ⟨fun μ' Nm' S' k1 k2 k3 => ?_⟩⟩
        · rcases List.mem_append.1 hn with hn | hn
          · exact a2 n hn
          · exact b2 n hn
        · simp only [impC]; rw [a4, b4]; simp; omega
        · have k3a : flatE t1 = true ∨ ∀ k, S k → S' k := k3.imp (fun h => by simp only [flatE, Bool.and_eq_true] at h; exact h.1) id
          have k3b : flatE t2 = true ∨ ∀ k, S k → S' k := k3.imp (fun h => by simp only [flatE, Bool.and_eq_true] at h; exact h.2) id
          obtain ⟨g1, g2⟩ := a6.go μ' Nm' S' (fun i hi => by rw [k1 i (by simp; omega), nthO_l hi]) (fun i hi => k2 i (by simp; omega)) k3a
          obtain ⟨g3, g4⟩ := b6.go μ' Nm' S' (fun i hi => by rw [show b + L1.length + i = b + (L1.length + i) by omega, k1 (L1.length + i) (by simp; omega), nthO_r]) (fun i hi => by rw [show b + L1.length + i = b + (L1.length + i) by omega]; exact k2 _ (by simp; omega)) k3b
          simp only [impC]
          rw [a4]
          refine ⟨VRels_append g1 g3, fun q hq => ?_⟩
          rcases List.mem_append.1 hq with hq | hq
          · obtain ⟨i, o, h1, h2, h3, h4⟩ := g2 q hq
            exact ⟨i, o, by simp; omega, h2, h3, h4⟩
          · obtain ⟨i, o, h1, h2, h3, h4⟩ := g4 q hq
            refine ⟨L1.length + i, o, by simp; omega, by rw [h2, show b + L1.length + i = b + (L1.length + i) by omega], h3, ?_⟩
            rw [show b + (L1.length + i) = b + L1.length + i by omega]; exact h4
      · cases h
    · cases h

def runR (tmps : Array Value) : ResultVar → Sem Value
  | .tmp t => pure (tmps.getD t undef)
  | .cell a t => do loadVar t (← asAddr (tmps.getD a undef))

theorem resA_run (hE : EnvOK P E) {s : St} {a : Act} {w : World} {μ : Nat → Value} {Nm : Nat → Prop} (hr : Rel c s a w μ Nm) {x : ResultVar} {y : AV} (h : resA E s x = some y) : ∃ v, (runR a.tmps x).run P w = .ok v w ∧ VRel μ Nm (stab c μ s.mem) w y v := by
  cases x with
  | tmp t =>
    simp only [resA] at h
    injection h with h; subst h
    exact ⟨_, rfl, hr.slots t⟩
  | cell t T =>
    simp only [resA] at h
    split at h
    · rename_i n off hs
      split at h
      · rename_i U cs hm
        have h1 := hr.slots t
        rw [hs] at h1
        simp only [VRel] at h1
        obtain ⟨_, g, e1, e2⟩ := h1
        have ho := hr.objs n _ hm
        simp only [ORel] at ho
        obtain ⟨g', vs, e3, e4, e5, e6⟩ := ho
        rw [e1] at e3
        injection e3 with e3; injection e3 with e3; injection e3 with e3
        subst e3
        obtain ⟨v, k1, k2⟩ := loadA_run (P := P) hE (ad := ⟨g, 0, none⟩) h e6 (box_cells e5)
        refine ⟨v, ?_, k2⟩
        show ((do loadVar T (← asAddr (a.tmps.getD t undef))) : Sem Value).run P w = _
        rw [e2]
        have e7 : (⟨g, off, none⟩ : Addr) = (⟨g, 0, none⟩ : Addr).add off := by simp [Addr.add]
        rw [e7]
        simpa [Instr.loadAt, Instr.sureAddr, Sem.run_bind, asAddr, Result.andThen] using k1
      · cases h
    · cases h

theorem out_one (hm : ∀ n o, m n = some o → ORel c μ Nm S w n o) {v : VT} {y : AV} {d : v.t.D} {ns : List Nat} {x : Value} (h : packA m v y = some (d, ns)) (ho : v.own = true → ownCells m (cellsA y) = true) (hv : VRel μ Nm S w y x) (b : Nat) :
    (v.own = true → ∀ n ∈ ns, ∃ o, m n = some o ∧ o.live = true) ∧ ∃ Ln, (v.own = true → Ln.filterMap id = ns) ∧ (v.own = false → Ln = []) ∧ (impC v.own v.t d b).2.2 = b + Ln.length ∧ Out c μ w b Ln (impC v.own v.t d b).2.1 [wrapA v.agg (impC v.own v.t d b).1] [x] (v.t.flat || (v.own && flatE v.t)) (withB μ m S (match v.own with | true => [] | false => ns)) := by
  have core : ∀ (cs : List AV) (vs : List Value), pack m v.t cs = some (d, [], ns) → (v.own = true → ownCells m cs = true) → VRels μ Nm S w cs vs → (∀ μ' Nm' S' cs', VRels μ' Nm' S' w cs' vs → VRel μ' Nm' S' w (wrapA v.agg cs') x) →
      (v.own = true → ∀ n ∈ ns, ∃ o, m n = some o ∧ o.live = true) ∧ ∃ Ln, (v.own = true → Ln.filterMap id = ns) ∧ (v.own = false → Ln = []) ∧ (impC v.own v.t d b).2.2 = b + Ln.length ∧ Out c μ w b Ln (impC v.own v.t d b).2.1 [wrapA v.agg (impC v.own v.t d b).1] [x] (v.t.flat || (v.own && flatE v.t)) (withB μ m S (match v.own with | true => [] | false => ns)) := by
    intro cs vs hp hoc hvs hwrap
    cases hown : v.own with
    | true =>
      obtain ⟨_, a2, Ln, v0, v1, a3, a4, a5, a6, a7⟩ := out_cells hm v.t cs d [] ns vs b hp (hoc hown) hvs
      have := VRels_nil a6; subst this
      rw [List.append_nil] at a5; subst a5
      refine ⟨fun _ => a2, Ln, fun _ => a3, (fun h => by cases h), a4, ⟨fun μ' Nm' S' k1 k2 k3 => ?_⟩⟩
      obtain ⟨g1, g2⟩ := a7.go μ' Nm' S' k1 k2 (k3.imp (fun h => by
        simp only [Bool.true_and, Bool.or_eq_true] at h
        exact h.elim (flat_E _) id) (fun h k hk => h k (.inl hk)))
      exact ⟨by simp only [VRels, and_true]; exact hwrap _ _ _ _ g1, g2⟩
    | false =>
      obtain ⟨v0, v1, a5, hf, a6⟩ := pack_rel hm _ _ _ _ _ _ hp hvs
      have := VRels_nil a6; subst this
      rw [List.append_nil] at a5; subst a5
      refine ⟨(fun h => by cases h), [], (fun h => by cases h), fun _ => rfl, by rw [impC_false]; rfl, ⟨fun μ' Nm' S' k1 k2 k3 => ?_⟩⟩
      rw [impC_false]
      refine ⟨?_, by simp⟩
      simp only [VRels, and_true]
      refine hwrap _ _ _ _ (unpack_rel _ _ _ ?_)
      rcases k3 with k3 | k3
      · simp only [Bool.false_and, Bool.or_false] at k3
        exact FK_flat v.t k3 _ _ hf
      · exact Kd.FK_mono hf k3
  unfold packA at h
  split at h
  · rename_i cs hA
    split at h
    · rename_i d' ns' hp
      injection h with h; injection h with h1 h2; subst h1; subst h2
      simp only [VRel] at hv
      obtain ⟨vs, rfl, hvs⟩ := hv
      exact core cs vs.toList hp ho hvs (fun μ' Nm' S' cs' h => by rw [hA]; simp only [wrapA, VRel]; exact ⟨vs, rfl, h⟩)
    · cases h
  · cases h
  · rename_i y' _ _ hA
    split at h
    · rename_i d' ns' hp
      injection h with h; injection h with h1 h2; subst h1; subst h2
      refine core [y'] [x] hp (fun hown => ?_) (by simp only [VRels, and_true]; exact hv) (fun μ' Nm' S' cs' h => ?_)
      · have h1 := ho hown
        cases y' <;> first | exact h1 | rfl
      · rw [hA]
        simp only [wrapA]
        have := VRels_get h 0
        simpa using this
    · cases h

theorem filter_some : ∀ l : List Nat, (l.map some).filterMap id = l
  | [] => rfl
  | n :: l => by simp
theorem nthO_map {l : List Nat} {i : Nat} (h : i < l.length) : nthO (l.map some) i = some (nthN l i) := by
  simp [nthO, h, nthN_e h]

/-- A shape, as it goes out. -/
theorem out_pv (hm : ∀ n o, m n = some o → ORel c μ Nm S w n o) {p : PV} {y : AV} {d : p.D} {ns : List Nat} {x : Value} (h : grab false m 0 p y = some (d, ns)) (hv : VRel μ Nm S w y x) (b : Nat) :
    (∀ n ∈ ns, ∃ o, m n = some o ∧ o.live = true) ∧ (lay p d b).2.2 = b + (ns.map some).length ∧ Out c μ w b (ns.map some) (lay p d b).2.1 [(lay p d b).1] [x] (flatPV p) S := by
  have h0 := grab_rel (μ' := fun i => μ (nthN ns (i - b))) (Nm' := fun _ => True) (S' := S) hm (fun j hj => absurd hj (by omega)) p y x d ns b (.inr fun _ h => h) h hv (fun i hi => by simp) (fun _ _ => trivial)
  refine ⟨h0.2.2.2, by rw [h0.2.1]; simp, ⟨fun μ' Nm' S' k1 k2 k3 => ?_⟩⟩
  obtain ⟨g1, g2, g3, g4⟩ := grab_rel (μ' := μ') (Nm' := Nm') (S' := S') hm (fun j hj => absurd hj (by omega)) p y x d ns b k3 h hv (fun i hi => by rw [k1 i (by simpa using hi), nthO_map hi]; rfl) (fun i hi => k2 i (by simpa using hi))
  refine ⟨by simp only [VRels, and_true]; exact g1, fun q hq => ?_⟩
  obtain ⟨o, i, a1, a2, a3, a4⟩ := g3 q hq
  exact ⟨i, o, by simpa using a1, a2, a3, a4⟩

/-- Two things that go out, one behind the other. -/
theorem Out.append {b : Nat} {L1 L2 : List (Option Nat)} {us1 us2 : List (Nat × Option Obj)} {cs1 cs2 : List AV} {vs1 vs2 : List Value} {f1 f2 : Bool} {S1 S2 S3 : Nat → Prop} (h1 : Out c μ w b L1 us1 cs1 vs1 f1 S1) (h2 : Out c μ w (b + L1.length) L2 us2 cs2 vs2 f2 S2) (hS1 : ∀ k, S1 k → S3 k) (hS2 : ∀ k, S2 k → S3 k) : Out c μ w b (L1 ++ L2) (us1 ++ us2) (cs1 ++ cs2) (vs1 ++ vs2) (f1 && f2) S3 where
  go := fun μ' Nm' S' k1 k2 k3 => by
    have kk : f1 = true ∧ f2 = true ∨ ∀ k, S3 k → S' k := k3.imp (fun h => by simpa using h) id
    obtain ⟨g1, g2⟩ := h1.go μ' Nm' S' (fun i hi => by rw [k1 i (by simp; omega), nthO_l hi]) (fun i hi => k2 i (by simp; omega)) (kk.imp (fun h => h.1) (fun h k hk => h k (hS1 k hk)))
    obtain ⟨g3, g4⟩ := h2.go μ' Nm' S' (fun i hi => by rw [show b + L1.length + i = b + (L1.length + i) by omega, k1 (L1.length + i) (by simp; omega), nthO_r]) (fun i hi => by rw [show b + L1.length + i = b + (L1.length + i) by omega]; exact k2 _ (by simp; omega)) (kk.imp (fun h => h.2) (fun h k hk => h k (hS2 k hk)))
    refine ⟨VRels_append g1 g3, fun q hq => ?_⟩
    rcases List.mem_append.1 hq with hq | hq
    · obtain ⟨i, o, h1, h2, h3, h4⟩ := g2 q hq
      exact ⟨i, o, by simp; omega, h2, h3, h4⟩
    · obtain ⟨i, o, h1, h2, h3, h4⟩ := g4 q hq
      refine ⟨L1.length + i, o, by simp; omega, by rw [h2, show b + L1.length + i = b + (L1.length + i) by omega], h3, ?_⟩
      rw [show b + (L1.length + i) = b + L1.length + i by omega]; exact h4

theorem out_res (hE : EnvOK P E) {s : St} {a : Act} {w : World} {μ : Nat → Value} {Nm : Nat → Prop} (hr : Rel c s a w μ Nm) : ∀ (rs : List RT) (xs : List ResultVar) (d : RD rs) (os qs : List Nat) (b : Nat), outR E s rs xs = some (d, os, qs) →
    (∀ n ∈ os, ∃ o, s.mem n = some o ∧ o.live = true) ∧ ∃ (vs : List Value) (Ln : List (Option Nat)), ((xs.mapM (runR a.tmps)) : Sem (List Value)).run P w = .ok vs w ∧ Ln.filterMap id = os ∧ (impR rs d b).2.2 = b + Ln.length ∧ Out c μ w b Ln (impR rs d b).2.1 (impR rs d b).1 vs (flatRT rs) (withB μ s.mem (stab c μ s.mem) qs)
  | [], xs, d, os, qs, b, h => by
    cases xs with
    | nil =>
      simp only [outR] at h
      injection h with h; injection h with h1 h2; injection h2 with h2 h3; subst h2; subst h3
      exact ⟨by simp, [], [], rfl, rfl, rfl, ⟨fun _ _ _ _ _ _ => ⟨by simp only [impR, VRels], by simp [impR]⟩⟩⟩
    | cons _ _ => simp [outR] at h
  | .pv p :: rs, xs, d, os, qs, b, h => by
    cases xs with
    | nil => simp [outR] at h
    | cons x xs =>
      simp only [outR] at h
      split at h
      · rename_i y hy
        split at h
        · rename_i d1 ns hp
          split at h
          · rename_i ds os' qs' hrest
            injection h with h; injection h with h1 h2; injection h2 with h2 h3; subst h1; subst h2; subst h3
            obtain ⟨u, hu, hvu⟩ := resA_run hE hr hy
            obtain ⟨p1, p4, p5⟩ := out_pv hr.objs hp hvu b
            obtain ⟨r1, vs, L2, r2, r3, r4, r5⟩ := out_res hE hr rs xs ds os' qs' (b + (ns.map some).length) hrest
            refine ⟨fun n hn => ?_, u :: vs, ns.map some ++ L2, ?_, ?_, ?_, ?_⟩
            · rcases List.mem_append.1 hn with hn | hn
              · exact p1 n hn
              · exact r1 n hn
            · simp only [List.mapM_cons, Sem.run_bind, hu, Result.andThen_ok, r2]
              rfl
            · rw [List.filterMap_append, filter_some, r3]
            · simp only [impR]; rw [p4, r4]; simp; omega
            · simp only [impR]
              rw [p4]
              exact p5.append r5 (fun k hk => .inl hk) (fun k hk => hk)
          · cases h
        · cases h
      · cases h
  | .val v :: rs, xs, d, os, qs, b, h => by
    cases xs with
    | nil => simp [outR] at h
    | cons x xs =>
      simp only [outR] at h
      split at h
      · rename_i y hy
        split at h
        · rename_i d1 ns hp
          split at h
          · rename_i ds os' qs' hrest
            obtain ⟨u, hu, hvu⟩ := resA_run hE hr hy
            have comb : ∀ (h1 : v.own = true → ownCells s.mem (cellsA y) = true), (d1, ds) = d → (match v.own with | true => ns ++ os' | false => os') = os → (match v.own with | true => qs' | false => ns ++ qs') = qs →
                (∀ n ∈ os, ∃ o, s.mem n = some o ∧ o.live = true) ∧ ∃ (vs : List Value) (Ln : List (Option Nat)), (((x :: xs).mapM (runR a.tmps)) : Sem (List Value)).run P w = .ok vs w ∧ Ln.filterMap id = os ∧ (impR (.val v :: rs) d b).2.2 = b + Ln.length ∧ Out c μ w b Ln (impR (.val v :: rs) d b).2.1 (impR (.val v :: rs) d b).1 vs (flatRT (.val v :: rs)) (withB μ s.mem (stab c μ s.mem) qs) := by
              intro h1 hd hos hqs
              subst hd; subst hos; subst hqs
              obtain ⟨p1, L1, p2, p3, p4, p5⟩ := out_one hr.objs hp h1 hvu b
              obtain ⟨r1, vs, L2, r2, r3, r4, r5⟩ := out_res hE hr rs xs ds os' qs' (b + L1.length) hrest
              refine ⟨fun n hn => ?_, u :: vs, L1 ++ L2, ?_, ?_, ?_, ?_⟩
              · cases hown : v.own with
                | true =>
                  rw [hown] at hn
                  rcases List.mem_append.1 hn with hn | hn
                  · exact p1 hown n hn
                  · exact r1 n hn
                | false => rw [hown] at hn; exact r1 n hn
              · simp only [List.mapM_cons, Sem.run_bind, hu, Result.andThen_ok, r2]
                rfl
              · rw [List.filterMap_append, r3]
                cases hown : v.own with
                | true => rw [p2 hown]
                | false => rw [p3 hown]; rfl
              · simp only [impR]; rw [p4, r4]; simp; omega
              · simp only [impR]
                rw [p4]
                refine p5.append r5 (fun k hk => ?_) (fun k hk => ?_)
                · cases hown : v.own with
                  | true => rw [hown] at hk; exact .inl (withB_nil hk)
                  | false => rw [hown] at hk; exact withB_left hk
                · cases hown : v.own with
                  | true => exact hk
                  | false => exact withB_right hk
            split at h
            · rename_i hown
              split at h
              · rename_i hoc
                injection h with h; injection h with h1 h2; injection h2 with h2 h3
                exact comb (fun _ => hoc) h1 (by rw [hown]; exact h2) (by rw [hown]; exact h3)
              · cases h
            · rename_i hown
              injection h with h; injection h with h1 h2; injection h2 with h2 h3
              exact comb (fun h => by rw [hown] at h; cases h) h1 (by rw [hown]; exact h2) (by rw [hown]; exact h3)
          · cases h
        · cases h
      · cases h

/-- What was lent, as it goes back. -/
theorem out_lent (hm : ∀ n o, m n = some o → ORel c μ Nm S w n o) {pn : Nat → Nat} (hS : True) : ∀ (ps : List PT) (o : MD ps) (pj is : List Nat) (j b : Nat), outM m ps j = some (o, pj, is) →
    (∀ n ∈ pj ++ is, ∃ ob, m n = some ob ∧ ob.live = true) ∧ (∀ n ∈ pj, j ≤ n ∧ n < j + pinsN ps) ∧ (outP ps o pn j b).2 = b + (is.map some).length ∧
      ∀ (μ' : Nat → Value) (Nm' S' : Nat → Prop), (∀ i, i < is.length → μ' (b + i) = μ (nthN is i) ∧ Nm' (b + i)) → (∀ i, i ∈ pj → μ' (pn i) = μ i ∧ Nm' (pn i)) → (flatMT ps = true ∨ ∀ k, S k → S' k) →
        ∀ q ∈ (outP ps o pn j b).1, q.2 = none ∨ ∃ ob, ob.live = true ∧ ((∃ i, i < is.length ∧ q = (b + i, some ob) ∧ ORel c μ' Nm' S' w (b + i) ob) ∨ (∃ i, i ∈ pj ∧ q = (pn i, some ob) ∧ ORel c μ' Nm' S' w (pn i) ob))
  | [], o, pj, is, j, b, h => by
    simp only [outM] at h
    injection h with h; injection h with h1 h2; injection h2 with h2 h3; subst h2; subst h3
    exact ⟨by simp, by simp, rfl, by simp [outP]⟩
  | .val v :: ps, o, pj, is, j, b, h => by simp only [outM] at h; simp only [outP, pinsN, flatMT]; exact out_lent hm hS ps o pj is j b h
  | .pv v :: ps, o, pj, is, j, b, h => by simp only [outM] at h; simp only [outP, pinsN, flatMT]; exact out_lent hm hS ps o pj is j b h
  | .gv v :: ps, o, pj, is, j, b, h => by simp only [outM] at h; simp only [outP, pinsN, flatMT]; exact out_lent hm hS ps o pj is j b h
  | .give e t :: ps, o, pj, is, j, b, h => by
    simp only [outM] at h
    obtain ⟨g1, g2, g3, g4⟩ := out_lent hm hS ps o pj is (j + 1) b h
    simp only [outP, pinsN, flatMT]
    refine ⟨g1, fun n hn => by have := g2 n hn; omega, g3, fun μ' Nm' S' k1 k2 k3 q hq => ?_⟩
    rcases List.mem_cons.1 hq with rfl | hq
    · exact .inl rfl
    · exact g4 μ' Nm' S' k1 k2 k3 q hq
  | .mrow e t :: ps, o, pj, is, j, b, h => by
    simp only [outM] at h
    split at h
    · rename_i d1 _ ho
      split at h
      · rename_i ds pj' is' hr
        injection h with h; injection h with h1 h2; injection h2 with h2 h3; subst h1; subst h2; subst h3
        obtain ⟨g1, g2, g3, g4⟩ := out_lent (pn := pn) hm hS ps ds pj' is' (j + 1) b hr
        have hmj := ownOf_own ho
        have hob := hm j _ hmj
        simp only [ORel] at hob
        simp only [outP, pinsN, flatMT]
        refine ⟨fun n hn => ?_, fun n hn => ?_, g3, fun μ' Nm' S' k1 k2 k3 q hq => ?_⟩
        · simp only [List.cons_append, List.mem_cons] at hn
          rcases hn with rfl | hn
          · exact ⟨_, hmj, rfl⟩
          · exact g1 n hn
        · rcases List.mem_cons.1 hn with rfl | hn
          · omega
          · have := g2 n hn; omega
        · have kk : t.flat = true ∧ flatMT ps = true ∨ ∀ k, S k → S' k := k3.imp (fun h => by simpa using h) id
          rcases List.mem_cons.1 hq with rfl | hq
          · refine .inr ⟨_, rfl, .inr ⟨j, List.mem_cons_self, rfl, ?_⟩⟩
            simp only [ORel]
            rw [(k2 j List.mem_cons_self).1]
            exact NX_turn (kk.imp (fun h => h.1) id) hob
          · rcases g4 μ' Nm' S' k1 (fun i hi => k2 i (List.mem_cons_of_mem _ hi)) (kk.imp (fun h => h.2) id) q hq with h | ⟨ob, h1, h2⟩
            · exact .inl h
            · exact .inr ⟨ob, h1, h2.imp id (fun ⟨i, h3, h4⟩ => ⟨i, List.mem_cons_of_mem _ h3, h4⟩)⟩
      · cases h
    · cases h
  | .mbox T cs :: ps, o, pj, is, j, b, h => by
    simp only [outM] at h
    split at h
    · rename_i U xs hmj
      split at h
      · rename_i hT
        have := Nat.eq_of_beq_eq_true hT; subst this
        split at h
        · rename_i d1 is1 hg
          split at h
          · rename_i ds pj' is' hr
            injection h with h; injection h with h1 h2; injection h2 with h2 h3; subst h1; subst h2; subst h3
            have hob := hm j _ hmj
            simp only [ORel] at hob
            obtain ⟨g, vs, e1, e2, e3, e4⟩ := hob
            have h0 := grabs_rel (z := false) (np := 0) (μ' := fun i => μ (nthN is1 (i - b))) (Nm' := fun _ => True) (S' := S) hm (fun j hj => absurd hj (by omega)) cs xs vs.toList d1 is1 b (.inr fun _ h => h) hg e4 (fun i hi => by simp) (fun _ _ => trivial)
            obtain ⟨g1, g2, g3, g4⟩ := out_lent (pn := pn) hm hS ps ds pj' is' (j + 1) (b + is1.length) hr
            simp only [outP, pinsN, flatMT]
            rw [h0.2.1]
            refine ⟨fun n hn => ?_, fun n hn => ?_, by rw [g3]; simp; omega, fun μ' Nm' S' k1 k2 k3 q hq => ?_⟩
            · simp only [List.cons_append, List.mem_cons, List.mem_append] at hn
              rcases hn with rfl | hn | hn | hn
              · exact ⟨_, hmj, rfl⟩
              · exact g1 n (List.mem_append_left _ hn)
              · exact h0.2.2.2 n hn
              · exact g1 n (List.mem_append_right _ hn)
            · rcases List.mem_cons.1 hn with rfl | hn
              · omega
              · have := g2 n hn; omega
            · have kk : flatPVs cs = true ∧ flatMT ps = true ∨ ∀ k, S k → S' k := k3.imp (fun h => by simpa using h) id
              obtain ⟨m1, m2, m3, m4⟩ := grabs_rel (z := false) (np := 0) (μ' := μ') (Nm' := Nm') (S' := S') hm (fun j hj => absurd hj (by omega)) cs xs vs.toList d1 is1 b (kk.imp (fun h => h.1) id) hg e4 (fun i hi => by rw [(k1 i (by simp; omega)).1, nthN_l hi]) (fun i hi => (k1 i (by simp; omega)).2)
              rcases List.mem_cons.1 hq with rfl | hq
              · refine .inr ⟨_, rfl, .inr ⟨j, List.mem_cons_self, rfl, ?_⟩⟩
                simp only [ORel]
                exact ⟨g, vs, by rw [(k2 j List.mem_cons_self).1]; exact e1, e2, e3, m1⟩
              · rcases List.mem_append.1 hq with hq | hq
                · obtain ⟨ob, i, a1, a2, a3, a4⟩ := m3 q hq
                  exact .inr ⟨ob, a3, .inl ⟨i, by simp; omega, a2, a4⟩⟩
                · rcases g4 μ' Nm' S' (fun i hi => by
                    have := k1 (is1.length + i) (by simp; omega)
                    rw [show b + is1.length + i = b + (is1.length + i) by omega]; rw [nthN_r] at this; exact this) (fun i hi => k2 i (List.mem_cons_of_mem _ hi)) (kk.imp (fun h => h.2) id) q hq with h | ⟨ob, h1, h2⟩
                  · exact .inl h
                  · refine .inr ⟨ob, h1, ?_⟩
                    rcases h2 with ⟨i, h3, h4, h5⟩ | ⟨i, h3, h4⟩
                    · refine .inl ⟨is1.length + i, by simp; omega, by rw [h4, show b + is1.length + i = b + (is1.length + i) by omega], ?_⟩
                      rw [show b + (is1.length + i) = b + is1.length + i by omega]; exact h5
                    · exact .inr ⟨i, List.mem_cons_of_mem _ h3, h4⟩
          · cases h
        · cases h
      · cases h
    · cases h

theorem tup_rel {cs : List AV} {vs : List Value} (h : VRels μ Nm S w cs vs) : VRel μ Nm S w (tupA cs) (if h : vs.toArray.size = 1 then vs.toArray[0] else .tuple vs.toArray) := by
  match cs, vs, h with
  | [], [], h => simp only [tupA, VRel]; exact ⟨#[], by simp, by simp [VRels]⟩
  | [c], [v], h => simp only [VRels, and_true] at h; simpa [tupA] using h
  | c :: c' :: cs, v :: v' :: vs, h => simp only [tupA, VRel]; exact ⟨(v :: v' :: vs).toArray, by simp, by simpa using h⟩
  | [], _ :: _, h => simp only [VRels] at h
  | _ :: _, [], h => simp only [VRels] at h
  | [_], _ :: _ :: _, h => simp only [VRels] at h; exact h.2.elim
  | _ :: _ :: _, [_], h => simp only [VRels] at h; exact h.2.elim

theorem slotsOf_rel (T : Nat → Value) : ∀ (vs : List AV) (ys : List Value) (i : Nat), VRels μ Nm S w vs ys → (∀ j, j < ys.length → T (i + j) = ys.getD j undef) → ∀ x, VRel μ Nm S w (slotsOf i vs x) (T x)
  | [], ys, i, h, hT, x => by simp only [slotsOf, VRel]
  | _ :: _, [], _, h, _, _ => by simp only [VRels] at h
  | v :: vs, y :: ys, i, h, hT, x => by
    simp only [VRels] at h
    simp only [slotsOf]
    split
    · rename_i e
      have := Nat.eq_of_beq_eq_true e; subst this
      have := hT 0 (by simp)
      rw [Nat.add_zero] at this
      rw [this]
      exact h.1
    · exact slotsOf_rel T vs ys (i + 1) h.2 (fun j hj => by
        rw [show i + 1 + j = i + (j + 1) by omega, hT (j + 1) (by simp; omega)]; simp) x

theorem inP_len : ∀ (ps : List PT) (d : AD ps) (j b : Nat), (inP ps d j b).1.length = ps.length
  | [], _, _, _ => rfl
  | .val _ :: ps, d, j, b => by simp only [inP, List.length_cons]; rw [inP_len ps]
  | .pv _ :: ps, d, j, b => by simp only [inP, List.length_cons]; rw [inP_len ps]
  | .gv _ :: ps, d, j, b => by simp only [inP, List.length_cons]; rw [inP_len ps]
  | .mbox _ _ :: ps, d, j, b => by simp only [inP, List.length_cons]; rw [inP_len ps]
  | .mrow _ _ :: ps, d, j, b => by simp only [inP, List.length_cons]; rw [inP_len ps]
  | .give _ _ :: ps, d, j, b => by simp only [inP, List.length_cons]; rw [inP_len ps]

/-- What the evaluator answers of a body, the body does. -/
theorem evalS_ok (hE : EnvOK P E) (hmix : P.follows .mixedOrders = true) {fn : Func} {C : Code} {ps : List PT} {rs : List RT} {T : Tbl (RD rs × MD ps)} {s0 : St} {r : RD rs × MD ps} {k : Nat} (hj : Just E k T C (finish E ps rs fn.results.toList)) (h : evalM E k T C (finish E ps rs fn.results.toList) s0 = some r) {c : Ctx} (hnp : c.np = pinsN ps) {a : Act} {w : World} {μ : Nat → Value} {Nm : Nat → Prop} (hn : s0.n = fn.ntmps) (hr : Rel c s0 a w μ Nm) (hbound : ∀ n, Nm n → n < s0.nxt) :
    C.wp P (bodyPost P fn fun e w' => ∃ v, e = .returned v ∧ BelowX c.X c.base c.w0 w' ∧ ResRel c ps rs w' r v) a w := by
  refine evalM_ok (c := c) (n := fn.ntmps) hE hmix C T _ _ hj h a w μ Nm _ hn hr hbound (fun e s' a' w' μ' Nm' hfin hn' hr' hN' => ?_)
  have main : (∃ d os qs o pj is, outR E s' rs fn.results.toList = some (d, os, qs) ∧ outM s'.mem ps 0 = some (o, pj, is) ∧ nodupB (pj ++ (os ++ is)) = true ∧ disj (pj ++ (os ++ is)) qs = true ∧ (d, o) = r) → a'.defers = [] ∧ ∃ v, (results fn a'.tmps).run P w' = .ok v w' ∧ ∃ v', Ending.returned v = .returned v' ∧ BelowX c.X c.base c.w0 w' ∧ ResRel c ps rs w' r v' := by
    rintro ⟨d, os, qs, o, pj, is, ho, hm, hnd, hdis, rfl⟩
    have hnd := nodupB_iff hnd
    have hdj := disj_iff hdis
    refine ⟨hr'.defers, ?_⟩
    obtain ⟨_, vs, _, hrun, _⟩ := out_res hE hr' rs fn.results.toList d os qs 0 ho
    have hres : (results fn a'.tmps).run P w' = .ok (if h : vs.toArray.size = 1 then vs.toArray[0] else .tuple vs.toArray) w' := by
      have e1 : results fn a'.tmps = (do let vs ← fn.results.mapM (runR a'.tmps); pure (if h : vs.size = 1 then vs[0] else .tuple vs)) := by
        unfold results
        congr 1
      rw [e1, Array.mapM_eq_mapM_toList]
      simp only [Sem.run_bind, map_eq_pure_bind, hrun, Result.andThen_ok, Sem.run_pure]
    refine ⟨_, hres, _, rfl, hr'.below, fun b pn hpnb hpinj => ?_⟩
    obtain ⟨hlive, vs', Ln, hrun', hLn, hb2, hout⟩ := out_res hE hr' rs fn.results.toList d os qs b ho
    rw [hrun] at hrun'
    injection hrun' with hvv _
    subst hvv
    obtain ⟨hlive2, hpjr, hb3, hlent⟩ := out_lent (pn := pn) hr'.objs trivial ps o pj is 0 (b + Ln.length) hm
    have hB : outB ps rs (d, o) pn b = b + (Ln ++ is.map some).length := by
      unfold outB; rw [hb2, hb3]; simp; omega
    have hU : outU ps rs (d, o) pn b = (impR rs d b).2.1 ++ (outP ps o pn 0 (b + Ln.length)).1 := by
      unfold outU; rw [hb2]
    -- the names, and what they stand for
    let LL : List (Option Nat) := Ln ++ is.map some
    have hLL : LL.filterMap id = os ++ is := by rw [List.filterMap_append, hLn, filter_some]
    have hnd2 := List.nodup_append.1 hnd
    have hnl : (LL.filterMap id).Nodup := by rw [hLL]; exact hnd2.2.1
    have hmemos : ∀ {i n}, nthO LL i = some n → n ∈ os ++ is := fun {i n} h => by
      rw [← hLL]
      simp only [nthO, Option.join_eq_some_iff] at h
      exact List.mem_filterMap.2 ⟨some n, List.mem_of_getElem? h, rfl⟩
    have hB' : outB ps rs (d, o) pn b = b + LL.length := hB
    open Classical in
    let μr : Nat → Value := fun n => if b ≤ n ∧ n < b + LL.length then valO μ' (nthO LL (n - b)) else if h : ∃ j, j < c.np ∧ pn j = n then c.lent h.choose else undef
    let Nmr : Nat → Prop := fun n => (b ≤ n ∧ n < b + LL.length) ∨ ∃ j, j < c.np ∧ n = pn j
    have hμr1 : ∀ i, i < LL.length → μr (b + i) = valO μ' (nthO LL i) := fun i hi => by
      simp only [μr]; rw [if_pos ⟨by omega, by omega⟩, Nat.add_sub_cancel_left]
    have hμr2 : ∀ j, j < c.np → μr (pn j) = c.lent j := fun j hj => by
      have hno := hpnb j hj
      rw [hB'] at hno
      simp only [μr]
      rw [if_neg hno]
      have hex : ∃ i, i < c.np ∧ pn i = pn j := ⟨j, hj, rfl⟩
      rw [dif_pos hex]
      rw [hpinj _ _ hex.choose_spec.1 hj hex.choose_spec.2]
    have hNl : ∀ i, i < LL.length → Nmr (b + i) := fun i hi => .inl ⟨by omega, by omega⟩
    have hLlen : LL.length = Ln.length + is.length := by simp [LL]
    have hk1 : ∀ i, i < is.length → μr (b + Ln.length + i) = μ' (nthN is i) ∧ Nmr (b + Ln.length + i) := fun i hi => by
      rw [show b + Ln.length + i = b + (Ln.length + i) by omega]
      refine ⟨?_, hNl _ (by omega)⟩
      rw [hμr1 _ (by omega)]
      show valO μ' (nthO (Ln ++ is.map some) (Ln.length + i)) = _
      rw [nthO_r, nthO_map hi]
      rfl
    have hk2 : ∀ i, i ∈ pj → μr (pn i) = μ' i ∧ Nmr (pn i) := fun i hi => by
      have := hpjr i hi
      exact ⟨by rw [hμr2 i (by omega), (hr'.pins i (by omega)).2], .inr ⟨i, by omega, rfl⟩⟩
    -- an object that goes out, where it lives here
    have hsrc : ∀ n ob, updL (fun _ => none) (outU ps rs (d, o) pn b) n = some ob → Nmr n ∧ ∃ x : Option Nat, μr n = valO μ' x ∧ ((∃ i, i < LL.length ∧ n = b + i ∧ x = nthO LL i) ∨ (∃ j, j ∈ pj ∧ n = pn j ∧ x = some j)) := by
      intro n ob hn
      have hq := (updL_some hn).resolve_right (by simp)
      rw [hU] at hq
      have hpos : ∀ i, i < LL.length → n = b + i → Nmr n ∧ ∃ x : Option Nat, μr n = valO μ' x ∧ ((∃ i, i < LL.length ∧ n = b + i ∧ x = nthO LL i) ∨ (∃ j, j ∈ pj ∧ n = pn j ∧ x = some j)) := fun i hi e =>
        ⟨by rw [e]; exact hNl i hi, nthO LL i, by rw [e]; exact hμr1 i hi, .inl ⟨i, hi, e, rfl⟩⟩
      rcases List.mem_append.1 hq with hq | hq
      · have := (impR_names rs d b).2 _ hq
        rw [hb2] at this
        exact hpos (n - b) (by omega) (by omega)
      · rcases hlent μr Nmr (fun _ => True) hk1 hk2 (.inr fun _ _ => trivial) _ hq with h | ⟨ob', _, ⟨i, h1, h2, _⟩ | ⟨j, h1, h2, _⟩⟩
        · cases h
        · injection h2 with h2 _
          exact hpos (Ln.length + i) (by omega) (by omega)
        · injection h2 with h2 _
          exact ⟨by rw [h2]; exact (hk2 j h1).2, some j, by rw [h2, (hk2 j h1).1]; rfl, .inr ⟨j, h1, h2, rfl⟩⟩
    have hlv : ∀ n ob k, updL (fun _ => none) (outU ps rs (d, o) pn b) n = some ob → blk (μr n) = some k → ∃ n1 o1, n1 ∈ pj ++ (os ++ is) ∧ s'.mem n1 = some o1 ∧ o1.live = true ∧ blk (μ' n1) = some k ∧ ((∃ i, i < LL.length ∧ n = b + i ∧ nthO LL i = some n1) ∨ (n1 ∈ pj ∧ n = pn n1)) := by
      intro n ob k hn hk
      obtain ⟨_, x, h1, h2⟩ := hsrc n ob hn
      rw [h1] at hk
      rcases h2 with ⟨i, h3, h4, h5⟩ | ⟨j, h3, h4, h5⟩
      · cases hx : nthO LL i with
        | none => rw [h5, hx] at hk; simp [valO, blk] at hk
        | some n1 =>
          rw [h5, hx] at hk
          have hmm := hmemos hx
          have hl : ∃ o1, s'.mem n1 = some o1 ∧ o1.live = true := by
            rcases List.mem_append.1 hmm with hmm | hmm
            · exact hlive n1 hmm
            · exact hlive2 n1 (List.mem_append_right _ hmm)
          obtain ⟨o1, q1, q2⟩ := hl
          exact ⟨n1, o1, List.mem_append_right _ hmm, q1, q2, hk, .inl ⟨i, h3, h4, hx⟩⟩
      · rw [h5] at hk
        obtain ⟨o1, q1, q2⟩ := hlive2 j (List.mem_append_left _ h3)
        exact ⟨j, o1, List.mem_append_left _ h3, q1, q2, hk, .inr ⟨h3, h4⟩⟩
    have hSS : (flatRT rs && flatMT ps) = true ∨ ∀ k, withB μ' s'.mem (stab c μ' s'.mem) qs k → stab (outC (flatRT rs && flatMT ps) c) μr (updL (fun _ => none) (outU ps rs (d, o) pn b)) k := by
      cases hflat : (flatRT rs && flatMT ps) with
      | true => exact .inl rfl
      | false =>
        refine .inr (fun k hk => ⟨?_, fun n ob hn hl hbk => ?_⟩)
        · rcases hk with hk | ⟨q, hq, hl', hbq⟩
          · rcases hk.1 with h1 | h1
            · exact .inl h1
            · exact .inr h1
          · unfold liveN at hl'
            cases hmq : s'.mem q with
            | none => rw [hmq] at hl'; cases hl'
            | some ob =>
              rw [hmq] at hl'
              exact .inr (hr'.stab_lt hmq (by cases ob <;> first | exact hl' | rfl) hbq).1
        · obtain ⟨n1, o1, h1, h2, h3, h4, _⟩ := hlv n ob k hn hbk
          rcases hk with hk | ⟨q, hq, hl', hbq⟩
          · exact hk.2 n1 o1 h2 h3 h4
          · unfold liveN at hl'
            cases hmq : s'.mem q with
            | none => rw [hmq] at hl'; cases hl'
            | some ob =>
              rw [hmq] at hl'
              exact hr'.dist n1 q o1 ob h2 hmq h3 (by cases ob <;> first | exact hl' | rfl) (fun e => hdj n1 h1 (e ▸ hq)) k h4 hbq
    have hgo := hout.go μr Nmr (stab (outC (flatRT rs && flatMT ps) c) μr (updL (fun _ => none) (outU ps rs (d, o) pn b))) (fun i hi => by rw [hμr1 i (by omega)]; exact congrArg _ (nthO_l hi)) (fun i hi => hNl i (by omega)) (hSS.imp (fun h => by simp only [Bool.and_eq_true] at h; exact h.1) id)
    have hgl := hlent μr Nmr (stab (outC (flatRT rs && flatMT ps) c) μr (updL (fun _ => none) (outU ps rs (d, o) pn b))) hk1 hk2 (hSS.imp (fun h => by simp only [Bool.and_eq_true] at h; exact h.2) (fun h k hk => h k (.inl hk)))
    have hctx : ∀ n ob, Nmr n → ORel c μr Nmr (stab (outC (flatRT rs && flatMT ps) c) μr (updL (fun _ => none) (outU ps rs (d, o) pn b))) w' n ob → ORel (outC (flatRT rs && flatMT ps) c) μr Nmr (stab (outC (flatRT rs && flatMT ps) c) μr (updL (fun _ => none) (outU ps rs (d, o) pn b))) w' n ob := fun n ob hn h =>
      ORel_ctx (c1 := c) n ob (fun hl k hk => ORel_live_blk h hl hk) (fun _ h => h) (fun _ _ => rfl) (fun _ h => h) hn h
    refine ⟨μr, Nmr, fun n => by rw [hB'], hμr2, fun n ob hn => ?_, fun n n' ob ob' hn hn' hne k hk hk' => ?_, tup_rel hgo.1⟩
    · have hN := (hsrc n ob hn).1
      have hq := (updL_some hn).resolve_right (by simp)
      rw [hU] at hq
      rcases List.mem_append.1 hq with hq | hq
      · obtain ⟨i, ob', h1, h2, h3, h4⟩ := hgo.2 _ hq
        injection h2 with h2 h5
        injection h5 with h5
        subst h5; subst h2
        exact ⟨hN, h3, hctx _ _ hN h4⟩
      · rcases hgl _ hq with h | ⟨ob', h1, ⟨i, h2, h3, h4⟩ | ⟨i, h2, h3, h4⟩⟩
        · cases h
        · injection h3 with h3 h5
          injection h5 with h5
          subst h5; subst h3
          exact ⟨hN, h1, hctx _ _ hN h4⟩
        · injection h3 with h3 h5
          injection h5 with h5
          subst h5; subst h3
          exact ⟨hN, h1, hctx _ _ hN h4⟩
    · obtain ⟨n1, o1, h1, h2, h3, h4, h5⟩ := hlv n ob k hn hk
      obtain ⟨n2, o2, g1, g2, g3, g4, g5⟩ := hlv n' ob' k hn' hk'
      refine hr'.dist n1 n2 o1 o2 h2 g2 h3 g3 (fun e => ?_) k h4 g4
      rcases h5 with ⟨i, a1, a2, a3⟩ | ⟨a1, a2⟩ <;> rcases g5 with ⟨i', b1, b2, b3⟩ | ⟨b1, b2⟩
      · exact nodup_nth hnl a3 b3 (fun h => hne (by rw [a2, b2, h])) e
      · exact hnd2.2.2 _ b1 _ (hmemos a3) e.symm
      · exact hnd2.2.2 _ a1 _ (hmemos b3) e
      · exact hne (by rw [a2, b2, e])
  cases e with
  | exit id => simp only [finish] at hfin; cases hfin
  | normal =>
    simp only [finish] at hfin
    refine main ?_
    split at hfin
    · rename_i d os qs o pj is ho hm
      split at hfin
      · rename_i hb
        simp only [Bool.and_eq_true] at hb
        injection hfin with hfin
        exact ⟨d, os, qs, o, pj, is, ho, hm, hb.1, hb.2, hfin⟩
      · cases hfin
    · cases hfin
  | ret =>
    simp only [finish] at hfin
    refine main ?_
    split at hfin
    · rename_i d os qs o pj is ho hm
      split at hfin
      · rename_i hb
        simp only [Bool.and_eq_true] at hb
        injection hfin with hfin
        exact ⟨d, os, qs, o, pj, is, ho, hm, hb.1, hb.2, hfin⟩
      · cases hfin
    · cases hfin

/-- The contract of a function whose body the evaluator reads. -/
theorem evalF_ok (hE : EnvOK P E) (hmix : P.follows .mixedOrders = true) {f : FuncId} {fn : Func} {C : Code} {ps : List PT} {rs : List RT} {T : Nat → Tbl (RD rs × MD ps)} (hf : P.funcs[f]? = some fn) (hb : fn.body = some C) (hname : (fn.name == "runtime.NumGoroutine") = false) (hps : Nat.ble ps.length fn.ntmps = true)
    {sem : Nat → AD ps → Option (RD rs × MD ps)} (hj : ∀ k, owedF E fn ps rs k true (T k) = owedF E fn ps rs k false (T k)) (hsem : ∀ k x, sem k x = evalF E fn ps rs k (T k) x) : FnOK P f ⟨ps, rs, sem⟩ where
  there := ⟨fn, hf, hname, by rw [hb]; rfl⟩
  calls := fun k x r hx c args μ Nm hent => by
    have h : evalM E k (T k) C (finish E ps rs fn.results.toList) (entry ps x fn.ntmps) = some r := by
      have h1 := hsem k x
      unfold evalF at h1
      rw [hb] at h1
      exact h1.symm.trans hx
    have hj' : Just E k (T k) C (finish E ps rs fn.results.toList) := by
      have h1 := hj k
      unfold owedF at h1
      rw [hb] at h1
      exact (owed_just C _ _ _ _ h1).1
    refine calls_of_wp hf hb ?_
    have hlen : args.length = ps.length := by rw [← VRels_len hent.vals]; exact inP_len ps x 0 _
    have hle := Nat.le_of_ble_eq_true hps
    have hentry : entry ps x fn.ntmps = { sl := slotsOf 0 (inP ps x 0 (pinsN ps)).1, mem := updL (fun _ => none) (inP ps x 0 (pinsN ps)).2.1, nxt := (inP ps x 0 (pinsN ps)).2.2, n := fn.ntmps, np := pinsN ps } := rfl
    have hr : Rel c (entry ps x fn.ntmps) { tmps := args.toArray ++ Array.replicate (fn.ntmps - args.toArray.size) undef, defers := [] } c.w0 μ Nm := by
      rw [hentry]
      refine ⟨?_, hent.np.symm, hent.pins, rfl, ⟨rfl, rfl, rfl, Nat.le_refl _, fun _ _ _ => rfl⟩, hent.names, hent.objs, hent.dist, fun y => ?_⟩
      · show (args.toArray ++ Array.replicate (fn.ntmps - args.toArray.size) undef).size = fn.ntmps
        simp; omega
      · refine slotsOf_rel (fun y => (args.toArray ++ Array.replicate (fn.ntmps - args.toArray.size) undef).getD y undef) _ args 0 hent.vals (fun j hj => ?_) y
        simp only [Nat.zero_add]
        rw [Array.getD_eq_getD_getElem?, Array.getElem?_append_left (by simpa using hj)]
        simp [List.getD_eq_getElem?_getD]
    exact evalS_ok hE hmix hj' h hent.np rfl hr hent.bound
end
end Go.Proofs.Ytinopkpnlibopaa.Ab
