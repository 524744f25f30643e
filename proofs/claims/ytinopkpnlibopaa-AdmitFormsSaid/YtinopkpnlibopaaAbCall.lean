import Derived.Test.YtinopkpnlibopaaAbOps9
/- Calls. -/
set_option linter.unusedVariables false
set_option linter.unusedSimpArgs false
namespace Go.Proofs.Ytinopkpnlibopaa.Ab
open Go.RowKit

section
variable {P : Program} {E : Env} {c : Ctx} {o : Oper} {s : St} {b : Nat} {R : Type} {κ : Eff → Option R} {r : R}

theorem updL_in {n : Nat} : ∀ (us : List (Nat × Option Obj)) {m m' : Nat → Option Obj}, n ∈ us.map (·.1) → updL m us n = updL m' us n
  | [], _, _, h => by simp at h
  | (i, o) :: us, m, m', h => by
    simp only [updL]
    by_cases h1 : n ∈ us.map (·.1)
    · exact updL_in us h1
    · have hi : n = i := by
        simp only [List.map_cons, List.mem_cons] at h
        exact h.resolve_right h1
      subst hi
      exact updL_loc us (by rw [upd1_get, upd1_get, if_pos rfl, if_pos rfl])

theorem delL_get : ∀ (l : List Nat) (m : Nat → Option Obj) (n : Nat), updL m (delL l) n = if n ∈ l then none else m n
  | [], m, n => by simp [delL, updL]
  | i :: l, m, n => by
    simp only [delL, updL]
    rw [delL_get l]
    by_cases h : n ∈ l
    · simp [h]
    · rw [if_neg h, upd1_get]
      by_cases e : i = n
      · simp [e]
      · simp [e, h, Ne.symm e]

theorem outP_in : ∀ (ps : List PT) (o : MD ps) (pn : Nat → Nat) (j b i : Nat), i < pinsN ps → pn (j + i) ∈ (outP ps o pn j b).1.map (·.1)
  | [], _, _, _, _, _, h => by simp [pinsN] at h
  | .val v :: ps, o, pn, j, b, i, h => by simp only [outP]; exact outP_in ps o pn j b i h
  | .pv v :: ps, o, pn, j, b, i, h => by simp only [outP]; exact outP_in ps o pn j b i h
  | .gv v :: ps, o, pn, j, b, i, h => by simp only [outP]; exact outP_in ps o pn j b i h
  | .give e t :: ps, o, pn, j, b, i, h => by
    simp only [outP, List.map_cons, List.mem_cons]
    cases i with
    | zero => exact .inl rfl
    | succ i => exact .inr (by have := outP_in ps o pn (j + 1) b i (by simpa [pinsN] using h); rwa [show j + 1 + i = j + (i + 1) by omega] at this)
  | .mrow e t :: ps, o, pn, j, b, i, h => by
    simp only [outP, List.map_cons, List.mem_cons]
    cases i with
    | zero => exact .inl rfl
    | succ i => exact .inr (by have := outP_in ps o.2 pn (j + 1) b i (by simpa [pinsN] using h); rwa [show j + 1 + i = j + (i + 1) by omega] at this)
  | .mbox T cs :: ps, o, pn, j, b, i, h => by
    simp only [outP, List.map_cons, List.mem_cons, List.map_append, List.mem_append]
    cases i with
    | zero => exact .inl rfl
    | succ i => exact .inr (.inr (by have := outP_in ps o.2 pn (j + 1) (lays cs o.1 b).2.2 i (by simpa [pinsN] using h); rwa [show j + 1 + i = j + (i + 1) by omega] at this))

theorem nthN_mem : ∀ {l : List Nat} {i : Nat}, i < l.length → nthN l i ∈ l
  | [], _, h => by simp at h
  | _ :: _, 0, _ => by simp [nthN]
  | _ :: l, i + 1, h => List.mem_cons_of_mem _ (nthN_mem (by simpa using h))
theorem mem_nthN {l : List Nat} {n : Nat} (h : n ∈ l) : ∃ i, i < l.length ∧ nthN l i = n := by
  obtain ⟨i, hi, e⟩ := List.mem_iff_getElem.1 h
  exact ⟨i, hi, by rw [nthN_e hi, e]⟩
theorem nthN_inj {l : List Nat} (hn : l.Nodup) {i j : Nat} (hi : i < l.length) (hj : j < l.length) (h : nthN l i = nthN l j) : i = j := by
  rw [nthN_e hi, nthN_e hj] at h
  exact (List.getElem_inj hn).1 h

theorem import_ok {s1 : St} {a : Act} {w w' : World} {μ μr : Nat → Value} {Nm Nmr : Nat → Prop} {ps : List PT} {rs : List RT} {q : RD rs × MD ps} {v : Value} {ce : Ctx} {pn is : List Nat} (hr : Rel c s1 a w μ Nm) (hw0 : ce.w0 = w) (hnp : ce.np = pinsN ps) (hpl : pn.length = pinsN ps) (hlent : ∀ j, j < ce.np → ce.lent j = μ (nthN pn j))
    (hX : ∀ k, ce.X k ↔ ∃ n ∈ pn ++ is, blk (μ n) = some k) (hlive : ∀ n ∈ pn ++ is, ∃ o, s1.mem n = some o ∧ o.live = true) (hnd : (pn ++ is).Nodup) (hb : BelowX ce.X ce.base w w') (hres : ResAt ce ps rs w' q v b (nthN pn) μr Nmr)
    (hok : (flatRT rs && flatMT ps) = true ∨ ∀ k, ce.okA k → stab c μ s1.mem k) (hf : ∀ n, b ≤ n → n < b + 64 → ¬ Nm n) (hb2 : outB ps rs q (nthN pn) b ≤ b + 64) {d : Option Tmp} (hd : ∀ t, d = some t → t < s1.n) :
    ∃ μ' Nm', Rel c (({ s1 with mem := updL s1.mem (delL is ++ outU ps rs q (nthN pn) b) } : St).put d (tupA (impR rs q.1 b).1)) (a.put d v) w' μ' Nm' ∧ ∀ n, Nm' n → Nm n ∨ (b ≤ n ∧ n < b + 64) := by
  have hnames := outU_names ps rs q (nthN pn) b
  have hle : c.base ≤ w.heap.size := hr.below.size
  have hbase : ce.base = w.heap.size := by rw [← hw0]
  have hobase : (outC (flatRT rs && flatMT ps) ce).base = w.heap.size := by rw [← hw0]; rfl
  have hpnN : ∀ j, j < ce.np → Nm (nthN pn j) := fun j hj => by
    obtain ⟨o, ho, _⟩ := hlive _ (List.mem_append_left _ (nthN_mem (l := pn) (i := j) (by omega)))
    exact hr.names _ o ho
  have hrange : ∀ n, b ≤ n → n < outB ps rs q (nthN pn) b → ¬ Nm n := fun n h1 h2 => hf n h1 (by omega)
  let μ' : Nat → Value := fun n => if b ≤ n ∧ n < outB ps rs q (nthN pn) b then μr n else μ n
  have hμo : ∀ n, Nm n → μ' n = μ n := fun n hn => by
    show (if _ then _ else _) = _
    rw [if_neg]
    intro h
    exact hrange n h.1 h.2 hn
  have hμn : ∀ n, Nmr n → μ' n = μr n := fun n hn => by
    rcases (hres.nm n).1 hn with h | ⟨j, hj, rfl⟩
    · show (if _ then _ else _) = _
      rw [if_pos h]
    · rw [hμo _ (hpnN j hj), hres.lent j hj, hlent j hj]
  -- the memory behind the call
  have hmr : ∀ n, Nmr n → updL s1.mem (delL is ++ outU ps rs q (nthN pn) b) n = updL (fun _ => none) (outU ps rs q (nthN pn) b) n := fun n hn => by
    rw [updL_append]
    by_cases h1 : n ∈ (outU ps rs q (nthN pn) b).map (·.1)
    · exact updL_in _ h1
    · refine updL_loc _ ?_
      rw [delL_get]
      rcases (hres.nm n).1 hn with h | ⟨j, hj, rfl⟩
      · split
        · rfl
        · cases hm : s1.mem n with
          | none => rfl
          | some o => exact absurd (hr.names n o hm) (hrange n h.1 h.2)
      · exfalso
        refine h1 ?_
        unfold outU
        rw [List.map_append]
        have := outP_in ps q.2 (nthN pn) 0 (impR rs q.1 b).2.2 j (by omega)
        rw [Nat.zero_add] at this
        exact List.mem_append_right _ this
  have hmo : ∀ n, ¬ Nmr n → updL s1.mem (delL is ++ outU ps rs q (nthN pn) b) n = if n ∈ is then none else s1.mem n := fun n hn => by
    rw [updL_append, updL_none _ (fun p hp e => ?_), delL_get]
    subst e
    rcases hnames.2 p hp with ⟨i, h1, h2⟩ | h1
    · exact hn ((hres.nm _).2 (.inr ⟨i, by omega, h2⟩))
    · exact hn ((hres.nm _).2 (.inl h1))
  have hold : ∀ n o, ¬ Nmr n → updL s1.mem (delL is ++ outU ps rs q (nthN pn) b) n = some o → s1.mem n = some o ∧ n ∉ pn ++ is ∧ μ' n = μ n := fun n o hn hm => by
    rw [hmo n hn] at hm
    split at hm
    · cases hm
    · rename_i hi
      refine ⟨hm, fun h => ?_, hμo n (hr.names n o hm)⟩
      rcases List.mem_append.1 h with h | h
      · obtain ⟨i, h1, h2⟩ := mem_nthN h
        exact hn ((hres.nm n).2 (.inr ⟨i, by omega, h2.symm⟩))
      · exact hi h
  -- what is lent is none of what stays
  have hXlive : ∀ k, ce.X k → ∃ n o, n ∈ pn ++ is ∧ s1.mem n = some o ∧ o.live = true ∧ blk (μ n) = some k := fun k hk => by
    obtain ⟨n, h1, h2⟩ := (hX k).1 hk
    obtain ⟨o, h3, h4⟩ := hlive n h1
    exact ⟨n, o, h1, h3, h4, h2⟩
  have hXS : ∀ k, stab c μ s1.mem k → ¬ ce.X k := fun k hk hx => by
    obtain ⟨n, o, _, h1, h2, h3⟩ := hXlive k hx
    exact hk.2 n o h1 h2 h3
  have hXold : ∀ n o k, s1.mem n = some o → o.live = true → n ∉ pn ++ is → blk (μ n) = some k → ¬ ce.X k := fun n o k h1 h2 h3 h4 hx => by
    obtain ⟨n', o', g1, g2, g3, g4⟩ := hXlive k hx
    exact hr.dist n n' o o' h1 g2 h2 g3 (fun e => h3 (e ▸ g1)) k h4 g4
  have hnewblk : ∀ n o, Nmr n → updL s1.mem (delL is ++ outU ps rs q (nthN pn) b) n = some o → o.live = true → ∀ k, blk (μ' n) = some k → w.heap.size ≤ k ∨ ce.X k := fun n o hn hm hl k hk => by
    rw [hmr n hn] at hm
    rw [hμn n hn] at hk
    have := ORel_live_blk (hres.objs n o hm).2.2 hl hk
    rw [hobase] at this
    exact this
  have hS : ∀ k, stab c μ s1.mem k → k < w.heap.size → stab c μ' (updL s1.mem (delL is ++ outU ps rs q (nthN pn) b)) k := fun k hk hlt => ⟨hk.1, fun n o hm hl hbk => by
    by_cases hn : Nmr n
    · rcases hnewblk n o hn hm hl k hbk with h | h
      · omega
      · exact hXS k hk h
    · obtain ⟨h1, _, h3⟩ := hold n o hn hm
      rw [h3] at hbk
      exact hk.2 n o h1 hl hbk⟩
  have hSr : ∀ k, stab (outC (flatRT rs && flatMT ps) ce) μr (updL (fun _ => none) (outU ps rs q (nthN pn) b)) k → stab c μ' (updL s1.mem (delL is ++ outU ps rs q (nthN pn) b)) k := by
    intro k hk
    have hnew : ∀ n o, Nmr n → updL s1.mem (delL is ++ outU ps rs q (nthN pn) b) n = some o → o.live = true → blk (μ' n) ≠ some k := fun n o hn hm hl hbk => by
      rw [hmr n hn] at hm
      rw [hμn n hn] at hbk
      exact hk.2 n o hm hl hbk
    rcases hk.1 with h1 | h1 | h1
    · rw [hobase] at h1
      rcases hok with hflat | hok
      · have := h1.1
        simp only [outC, hflat] at this
      · have h2 : ce.okA k := by
          have := h1.1
          simp only [outC] at this
          split at this
          · exact this.elim
          · exact this
        exact hS k (hok k h2) h1.2
    · rw [hobase] at h1
      refine ⟨.inr (.inl (Nat.le_trans hle h1)), fun n o hm hl hbk => ?_⟩
      by_cases hn : Nmr n
      · exact hnew n o hn hm hl hbk
      · obtain ⟨h2, _, h3⟩ := hold n o hn hm
        rw [h3] at hbk
        have := (hr.stab_lt h2 hl hbk).2.1
        omega
    · have h1 : ce.X k := h1
      obtain ⟨n', o', g1, g2, g3, g4⟩ := hXlive k h1
      refine ⟨.inr (hr.stab_lt g2 g3 g4).1, fun n o hm hl hbk => ?_⟩
      by_cases hn : Nmr n
      · exact hnew n o hn hm hl hbk
      · obtain ⟨h2, h4, h3⟩ := hold n o hn hm
        rw [h3] at hbk
        exact hXold n o k h2 hl h4 hbk h1
  have g1 : Rel c { s1 with mem := updL s1.mem (delL is ++ outU ps rs q (nthN pn) b) } a w' μ' (fun n => Nm n ∨ Nmr n) := by
    refine hr.next (s' := { s1 with mem := updL s1.mem (delL is ++ outU ps rs q (nthN pn) b) }) hr.size hr.defers (hr.below.trans ⟨hb.os, hb.tape, hb.output, hb.size, fun k hk hx => hb.block k (by omega) (fun hcx => ?_)⟩) (fun k hk hlt => hb.block k (by omega) (hXS k hk)) hS hμo (fun n hn => .inl hn) (fun n o hm => ?_) (fun n n' o o' hm hm' hl hl' hne k hk hk' => ?_) (fun x => .inl ⟨rfl, rfl⟩)
    · obtain ⟨n, o, _, h1, h2, h3⟩ := hXlive k hcx
      rcases (hr.stab_lt h1 h2 h3).1 with h | h
      · omega
      · exact hx h
    · by_cases hn : Nmr n
      · refine .inr ⟨.inr hn, ?_⟩
        have hm' := hm
        simp only at hm'
        rw [hmr n hn] at hm'
        refine ORel_ctx (c1 := outC (flatRT rs && flatMT ps) ce) n o (fun hl k hk => ?_) hSr hμn (fun n hn => .inr hn) hn (hres.objs n o hm').2.2
        rcases hnewblk n o hn hm hl k (by rw [hμn n hn]; exact hk) with h | h
        · exact .inl (Nat.le_trans hle h)
        · obtain ⟨n', o', _, g2, g3, g4⟩ := hXlive k h
          exact (hr.stab_lt g2 g3 g4).1
      · obtain ⟨h1, h2, h3⟩ := hold n o hn hm
        exact .inl ⟨h1, fun hl k hk => hb.block k (by rw [hbase]; exact (hr.stab_lt h1 hl hk).2.1) (hXold n o k h1 hl h2 hk)⟩
    · by_cases hn : Nmr n
      · by_cases hn' : Nmr n'
        · simp only at hm hm'
          rw [hmr n hn] at hm
          rw [hmr n' hn'] at hm'
          rw [hμn n hn] at hk
          rw [hμn n' hn'] at hk'
          exact hres.dist n n' o o' hm hm' hne k hk hk'
        · obtain ⟨h1, h2, h3⟩ := hold n' o' hn' hm'
          rw [h3] at hk'
          rcases hnewblk n o hn hm hl k hk with h | h
          · have := (hr.stab_lt h1 hl' hk').2.1; omega
          · exact hXold n' o' k h1 hl' h2 hk' h
      · obtain ⟨h1, h2, h3⟩ := hold n o hn hm
        rw [h3] at hk
        by_cases hn' : Nmr n'
        · rcases hnewblk n' o' hn' hm' hl' k hk' with h | h
          · have := (hr.stab_lt h1 hl hk).2.1; omega
          · exact hXold n o k h1 hl h2 hk h
        · obtain ⟨h4, h5, h6⟩ := hold n' o' hn' hm'
          rw [h6] at hk'
          exact hr.dist n n' o o' h1 h4 hl hl' hne k hk hk'
  refine ⟨μ', _, g1.put d hd (VRel_step (fun _ _ _ => rfl) (fun k hk _ => hSr k hk) hμn (fun n hn => .inr hn) _ _ hres.val), fun n hn => ?_⟩
  rcases hn with hn | hn
  · exact .inl hn
  · rcases (hres.nm n).1 hn with h | ⟨j, hj, rfl⟩
    · exact .inr ⟨h.1, by omega⟩
    · exact .inl (hpnN j hj)

theorem allRowB_ok {m : Nat → Option Obj} : ∀ {l : List Nat}, allRowB m l = true → ∀ n ∈ l, ∃ f e t xs, m n = some (.row f e t xs)
  | [], _, n, hn => by cases hn
  | i :: l, h, n, hn => by
    simp only [allRowB, Bool.and_eq_true] at h
    rcases List.mem_cons.1 hn with rfl | hn
    · have h1 := h.1
      split at h1
      · rename_i f e t xs hm; exact ⟨f, e, t, xs, hm⟩
      · cases h1
    · exact allRowB_ok h.2 n hn

mutual
theorem grab_congr {m m' : Nat → Option Obj} {np : Nat} : ∀ (p : PV) (v : AV) (d : p.D) (ns : List Nat), grab false m np p v = some (d, ns) → (∀ n ∈ ns, m' n = m n) → grab false m' np p v = some (d, ns)
  | .cell t, v, d, ns, h, hm => by
    simp only [grab] at h ⊢
    split at h
    · rename_i d' ns' hp
      cases ns' with
      | nil =>
        rw [pack_congr _ _ _ _ _ hp (by simp)]
        exact h
      | cons _ _ => simp only [softB] at h; cases h
    · cases h
  | .own e t, v, d, ns, h, hm => by
    cases v <;> simp only [grab] at h ⊢ <;> try (cases h; done)
    rename_i n
    have hns : ns = [n] := by
      simp only [ownOf] at h
      split at h
      · split at h
        · split at h
          · injection h with h; injection h with _ h; exact h.symm
          · cases h
        · cases h
      · cases h
    rw [← h]
    simp only [ownOf]
    rw [hm n (by rw [hns]; simp)]
  | .box T cs, v, d, ns, h, hm => by
    cases v <;> simp only [grab] at h ⊢ <;> try (cases h; done)
    rename_i n off
    split at h
    · rename_i U xs hmn
      split at h
      · rename_i hT
        split at h
        · rename_i d' ns' hg
          injection h with h; injection h with h1 h2; subst h1; subst h2
          rw [hm n (by simp), hmn]
          simp only [hT, grabs_congr cs xs d' ns' hg (fun n' hn' => hm n' (List.mem_cons_of_mem _ hn'))]
        · cases h
      · cases h
    · cases h
  | .agg cs, v, d, ns, h, hm => by
    cases v <;> simp only [grab] at h ⊢ <;> try (cases h; done)
    exact grabs_congr cs _ d ns h hm
  | .nil, v, d, ns, h, hm => by
    cases v <;> simp only [grab] at h ⊢ <;> try (cases h; done)
    exact h
  | .pin row j, v, d, ns, h, hm => by
    cases row <;> cases v <;> simp only [grab] at h ⊢ <;> first | exact h | (cases h; done)
  | .ref t, v, d, ns, h, hm => by
    cases v <;> simp only [grab] at h ⊢ <;> first | exact h | (cases h; done)
  | .clo g cs, v, d, ns, h, hm => by
    cases v <;> simp only [grab] at h ⊢ <;> try (cases h; done)
    split at h
    · exact grabs_congr cs _ d ns h hm
    · cases h
  | .mp T ak tk av tv, v, d, ns, h, hm => by
    cases v <;> simp only [grab] at h ⊢ <;> try (cases h; done)
    rename_i n
    split at h
    · rename_i T' ak' tk' av' tv' es hmn
      split at h
      · rename_i hB
        split at h
        · rename_i es' hc
          injection h with h; injection h with h1 h2; subst h1; subst h2
          rw [hm n (by simp), hmn]
          simp only [hB, hc]
        · cases h
      · cases h
    · cases h
theorem grabs_congr {m m' : Nat → Option Obj} {np : Nat} : ∀ (ps : List PV) (vs : List AV) (d : PVs ps) (ns : List Nat), grabs false m np ps vs = some (d, ns) → (∀ n ∈ ns, m' n = m n) → grabs false m' np ps vs = some (d, ns)
  | [], vs, d, ns, h, hm => by cases vs <;> simp only [grabs] at h ⊢ <;> first | exact h | (cases h; done)
  | p :: ps, vs, d, ns, h, hm => by
    cases vs with
    | nil => simp [grabs] at h
    | cons v vs =>
      simp only [grabs] at h ⊢
      split at h
      · rename_i d1 ns1 h1
        split at h
        · rename_i d2 ns2 h2
          injection h with h; injection h with e1 e2; subst e1; subst e2
          rw [grab_congr p v d1 ns1 h1 (fun n hn => hm n (List.mem_append_left _ hn))]
          simp only
          rw [grabs_congr ps vs d2 ns2 h2 (fun n hn => hm n (List.mem_append_right _ hn))]
        · cases h
      · cases h
end

mutual
theorem packP_congr {m m' : Nat → Option Obj} : ∀ (p : PV) (v : AV) (d : p.D) (ns : List Nat), packP m p v = some (d, ns) → (∀ n ∈ ns, m' n = m n) → packP m' p v = some (d, ns)
  | .cell t, v, d, ns, h, hm => by
    simp only [packP] at h ⊢
    split at h
    · rename_i d' ns' hp
      injection h with h; injection h with h1 h2; subst h1; subst h2
      rw [pack_congr _ _ _ _ _ hp hm]
    · cases h
  | .ref t, v, d, ns, h, hm => by
    cases v <;> simp only [packP] at h ⊢ <;> first | exact h | (cases h; done) | skip
    rotate_left
    · rename_i t' x off
      cases off <;> first | exact h | (cases h; done)
    rename_i n off
    split at h
    · rename_i U cs hmn
      split at h
      · rename_i hl
        split at h
        · rename_i d' ns' hp
          injection h with h; injection h with h1 h2; subst h1; subst h2
          rw [hm n (by simp), hmn]
          simp only [hl, pack_congr _ _ _ _ _ hp (fun n' hn' => hm n' (List.mem_cons_of_mem _ hn'))]
        · cases h
      · cases h
    · cases h
  | .agg cs, v, d, ns, h, hm => by
    cases v <;> simp only [packP] at h ⊢ <;> try (cases h; done)
    exact packPs_congr cs _ d ns h hm
  | .clo g cs, v, d, ns, h, hm => by
    cases v <;> simp only [packP] at h ⊢ <;> try (cases h; done)
    split at h
    · exact packPs_congr cs _ d ns h hm
    · cases h
  | .own _ _, v, d, ns, h, hm => by simp [packP] at h
  | .box _ _, v, d, ns, h, hm => by simp [packP] at h
  | .nil, v, d, ns, h, hm => by
    cases v <;> simp only [packP] at h ⊢ <;> first | exact h | (cases h; done)
  | .pin _ _, v, d, ns, h, hm => by simp [packP] at h
  | .mp _ _ _ _ _, v, d, ns, h, hm => by simp [packP] at h
theorem packPs_congr {m m' : Nat → Option Obj} : ∀ (ps : List PV) (vs : List AV) (d : PVs ps) (ns : List Nat), packPs m ps vs = some (d, ns) → (∀ n ∈ ns, m' n = m n) → packPs m' ps vs = some (d, ns)
  | [], vs, d, ns, h, hm => by cases vs <;> simp only [packPs] at h ⊢ <;> first | exact h | (cases h; done)
  | p :: ps, vs, d, ns, h, hm => by
    cases vs with
    | nil => simp [packPs] at h
    | cons v vs =>
      simp only [packPs] at h ⊢
      split at h
      · rename_i d1 ns1 h1
        split at h
        · rename_i d2 ns2 h2
          injection h with h; injection h with e1 e2; subst e1; subst e2
          rw [packP_congr p v d1 ns1 h1 (fun n hn => hm n (List.mem_append_left _ hn))]
          simp only
          rw [packPs_congr ps vs d2 ns2 h2 (fun n hn => hm n (List.mem_append_right _ hn))]
        · cases h
      · cases h
end

theorem arg1P_congr {m m' : Nat → Option Obj} (p : PT) (a : AV) (d1 : p.D) (ns1 pn1 is1 : List Nat) (h1 : arg1P m p a = some (d1, ns1, pn1, is1)) (hn1 : ∀ n ∈ ns1, m' n = m n) (hp1 : ∀ n ∈ pn1, m' n = m n) (hi1 : ∀ n ∈ is1, m' n = m n) : arg1P m' p a = some (d1, ns1, pn1, is1) := by
  cases p with
  | val v =>
    simp only [arg1P] at h1 ⊢
    cases hpk : packA m v a with
    | none => rw [hpk] at h1; cases h1
    | some dn =>
      obtain ⟨d, n1⟩ := dn
      rw [hpk] at h1
      injection h1 with h1; injection h1 with q1 q2; injection q2 with q2 q3; injection q3 with q3 q4
      subst q1; subst q2; subst q3; subst q4
      rw [packA_congr hpk hn1]
  | pv q =>
    simp only [arg1P] at h1 ⊢
    cases hpk : packP m q a with
    | none => rw [hpk] at h1; cases h1
    | some dn =>
      obtain ⟨d, n1⟩ := dn
      rw [hpk] at h1
      injection h1 with h1; injection h1 with q1 q2; injection q2 with q2 q3; injection q3 with q3 q4
      subst q1; subst q2; subst q3; subst q4
      rw [packP_congr q a d n1 hpk hn1]
  | mbox T cs =>
    simp only [arg1P] at h1 ⊢
    split at h1
    · rename_i n
      split at h1
      · rename_i U zs hmn
        split at h1
        · rename_i hT
          split at h1
          · rename_i d is' hg
            injection h1 with h1; injection h1 with q1 q2; injection q2 with q2 q3; injection q3 with q3 q4
            subst q1; subst q2; subst q3; subst q4
            simp only [hp1 n (by simp), hmn, hT, grabs_congr cs zs d is' hg hi1]
          · cases h1
        · cases h1
      · cases h1
    · cases h1
  | mrow e t =>
    simp only [arg1P] at h1 ⊢
    split at h1
    · rename_i n
      split at h1
      · rename_i d l ho
        injection h1 with h1; injection h1 with q1 q2; injection q2 with q2 q3; injection q3 with q3 q4
        subst q1; subst q2; subst q3; subst q4
        have : ownOf m' e t (.own n) = ownOf m e t (.own n) := by simp only [ownOf]; rw [hp1 n (by simp)]
        simp only [this, ho]
      · cases h1
    · cases h1
  | give e t =>
    simp only [arg1P] at h1 ⊢
    split at h1
    · rename_i n
      split at h1
      · rename_i d l ho
        injection h1 with h1; injection h1 with q1 q2; injection q2 with q2 q3; injection q3 with q3 q4
        subst q1; subst q2; subst q3; subst q4
        have : ownOf m' e t (.own n) = ownOf m e t (.own n) := by simp only [ownOf]; rw [hp1 n (by simp)]
        simp only [this, ho]
      · cases h1
    · cases h1

  | gv q =>
    simp only [arg1P] at h1 ⊢
    cases hpk : grab false m 0 q a with
    | none => rw [hpk] at h1; cases h1
    | some dn =>
      obtain ⟨d, n1⟩ := dn
      rw [hpk] at h1
      injection h1 with h1; injection h1 with q1 q2; injection q2 with q2 q3; injection q3 with q3 q4
      subst q1; subst q2; subst q3; subst q4
      rw [grab_congr q a d n1 hpk hi1]

theorem argsP_congr {m m' : Nat → Option Obj} : ∀ (ps : List PT) (xs : List AV) (x : AD ps) (ns pn is : List Nat), argsP m ps xs = some (x, ns, pn, is) → (∀ n ∈ ns ++ (pn ++ is), m' n = m n) → argsP m' ps xs = some (x, ns, pn, is)
  | [], xs, x, ns, pn, is, h, hm => by cases xs <;> simp only [argsP] at h ⊢ <;> first | exact h | (cases h; done)
  | p :: ps, xs, x, ns, pn, is, h, hm => by
    cases xs with
    | nil => simp [argsP] at h
    | cons a xs =>
      simp only [argsP] at h ⊢
      split at h
      · rename_i d1 ns1 pn1 is1 h1
        split at h
        · rename_i d2 ns2 pn2 is2 h2
          injection h with h; injection h with e1 e2; injection e2 with e2 e3; injection e3 with e3 e4
          subst e1; subst e2; subst e3; subst e4
          rw [argsP_congr ps xs d2 ns2 pn2 is2 h2 (fun n hn => hm n (by
            simp only [List.mem_append] at hn ⊢
            rcases hn with hn | hn | hn
            · exact .inl (.inr hn)
            · exact .inr (.inl (.inr hn))
            · exact .inr (.inr (.inr hn))))]
          rw [arg1P_congr p a d1 ns1 pn1 is1 h1 (fun n hn => hm n (by simp [hn])) (fun n hn => hm n (by simp [hn])) (fun n hn => hm n (by simp [hn]))]
        · cases h
      · cases h

theorem call_ok (hE : EnvOK P E) {g : FuncId} {F : Fn} {cl : Call} {f : Operand} {caps : List AV} {x : AD F.ps} {ns pn is : List Nat} {k : Nat} {q : RD F.rs × MD F.ps} (ho : o.op = .call cl) (hc : cl.callee = .value f) (hfv : s.op f = .clo g caps) (hF : E.fn g = some F) (hp : argsP s.mem F.ps (mapOp s cl.args.toList ++ caps) = some (x, ns, pn, is)) (hchk : (nodupB (pn ++ is) && disj (pn ++ is) ns) = true) (hsem : F.sem k x = some q) (hb2 : outB F.ps F.rs q (nthN pn) b ≤ b + 64) {us : List (Nat × Option Obj)} {nm : List Nat} (hnm : ∀ n ∈ ns ++ (pn ++ is), n ∈ nm)
    (hus : ((flatRT F.rs && flatMT F.ps) = true ∧ us = delL is ++ outU F.ps F.rs q (nthN pn) b) ∨ (allRowB s.mem ns = true ∧ us = frz s.mem ns ++ (delL is ++ outU F.ps F.rs q (nthN pn) b))) : OpOK P c o s b ⟨tupA (impR F.rs q.1 b).1, us, nm⟩ := by
  intro s' a w μ Nm next Q hag hr hf hd hn
  have hops : ∀ y ∈ cl.args.toList, s'.op y = s.op y := fun y hy => hag.ops y (by simp [Op.operands, ho, Call.operands, hc]; first | exact .inr (by simpa using hy) | exact .inl (by simpa using hy) | skip)
  have hfo : s'.op f = s.op f := hag.ops f (by simp [Op.operands, ho, Call.operands, hc])
  have hp' := argsP_congr (m' := s'.mem) _ _ _ _ _ _ hp (fun n hn => hag.mem n (hnm n hn))
  have hfr := hr.op f
  rw [hfo, hfv] at hfr
  simp only [VRel] at hfr
  obtain ⟨vs, hfe, hvs⟩ := hfr
  have hxs := hr.ops cl.args.toList
  rw [ops_agree hops] at hxs
  have hall := VRels_append hxs hvs
  simp only [Bool.and_eq_true] at hchk
  have hnd := nodupB_iff hchk.1
  have hdj := disj_iff hchk.2
  have hok := hE.fn g F hF
  obtain ⟨fn, hfn, hname, hbody⟩ := hok.there
  have hrun : (execOp a.eval o).run P w = .ok (.enter g (#[] ++ cl.args.map a.eval ++ vs)) w := by
    simp only [execOp, ho, resolve, hc, hfe, Deferred.ofValue, pure_bind, invoke]
    exact run_callFunc' hfn hname hbody _ w
  have harr : (#[] ++ cl.args.map a.eval ++ vs) = (cl.args.toList.map a.eval ++ vs.toList).toArray := by
    apply Array.toList_inj.1; simp
  -- the frame of the call
  let ce : Ctx := { okA := withB μ s'.mem (stab c μ s'.mem) ns, X := fun k => ∃ n ∈ pn ++ is, blk (μ n) = some k, w0 := w, np := pinsN F.ps, lent := fun j => μ (nthN pn j) }
  let μe : Nat → Value := fun i => if i < pn.length then μ (nthN pn i) else μ (nthN is (i - pn.length))
  let Nme : Nat → Prop := fun i => i < pn.length + is.length
  -- of pn and is: what there is
  have hpre := argsP_ent (c := c) (μ' := μe) (Nm' := Nme) (S' := fun _ => True) hr.objs (fun _ _ => trivial) F.ps _ _ x ns pn is 0 pn.length hp' hall (fun _ _ => trivial) (fun i hi => ⟨by simp [μe, hi], by show _ < _; omega⟩) (fun i hi => ⟨by simp only [μe]; rw [if_neg (by omega), Nat.add_sub_cancel_left], by show _ < _; omega⟩)
  obtain ⟨_, hcnt, hplen, hus0, hlive, hnsm⟩ := hpre
  have hμe : ∀ i, i < pn.length + is.length → ∃ n, n ∈ pn ++ is ∧ n = nthN (pn ++ is) i ∧ μe i = μ n := fun i hi => by
    refine ⟨nthN (pn ++ is) i, nthN_mem (by simpa using hi), rfl, ?_⟩
    by_cases h : i < pn.length
    · simp only [μe, h, if_true]; rw [nthN_l h]
    · simp only [μe, h, if_false]
      have : i = pn.length + (i - pn.length) := by omega
      rw [this, nthN_r, Nat.add_sub_cancel_left]
  rw [hplen] at hcnt hus0
  have hem : ∀ i o, updL (fun _ => none) (inP F.ps x 0 (pinsN F.ps)).2.1 i = some o → o.live = true ∧ i < pn.length + is.length := fun i o hi => by
    have h1 := (updL_some hi).resolve_right (by simp)
    obtain ⟨j, o', h2, h3⟩ := hus0 _ h1
    rcases h3 with ⟨h3, h4, _⟩ | ⟨h3, h4, _⟩
    · injection h4 with h4 h5; injection h5 with h5; subst h5; exact ⟨h2, by omega⟩
    · injection h4 with h4 h5; injection h5 with h5; subst h5; exact ⟨h2, by omega⟩
  have hSe : ∀ k, withB μ s'.mem (stab c μ s'.mem) ns k → stab ce μe (updL (fun _ => none) (inP F.ps x 0 (pinsN F.ps)).2.1) k := fun k hk => by
    refine ⟨?_, fun i o hi hl hbk => ?_⟩
    · rcases Nat.lt_or_ge k w.heap.size with h | h
      · exact .inl ⟨hk, h⟩
      · exact .inr (.inl h)
    · obtain ⟨n, hn1, _, hn2⟩ := hμe i (hem i o hi).2
      rw [hn2] at hbk
      obtain ⟨o', h1, h2⟩ := hlive n hn1
      rcases hk with hk | ⟨n', h3, h4, h5⟩
      · exact hk.2 n o' h1 h2 hbk
      · unfold liveN at h4
        cases hm : s'.mem n' with
        | none => rw [hm] at h4; cases h4
        | some ob =>
          rw [hm] at h4
          exact hr.dist n n' o' ob h1 hm h2 (by cases ob <;> first | exact h4 | rfl) (fun e => hdj n hn1 (e ▸ h3)) k hbk h5
  obtain ⟨hvals, hcnt2, _, hus2, _, _⟩ := argsP_ent (c := c) (μ' := μe) (Nm' := Nme) hr.objs (fun k hk => hSe k (.inl hk)) F.ps _ _ x ns pn is 0 (pinsN F.ps) hp' hall hSe (fun i hi => ⟨by simp [μe, hi], by show _ < _; omega⟩) (fun i hi => ⟨by rw [← hplen]; simp only [μe]; rw [if_neg (by omega), Nat.add_sub_cancel_left], by show _ < _; omega⟩)
  have hent : EntOK ce F.ps x (cl.args.toList.map a.eval ++ vs.toList) μe Nme := by
    refine ⟨rfl, fun j hj => ⟨by show _ < _; have : j < pinsN F.ps := hj; omega, ?_⟩, fun n hn => ?_, fun n o hn => (hem n o hn).2, fun n o hn => ?_, fun i i' o o' hi hi' hl hl' hne k hk hk' => ?_, hvals⟩
    · have hj' : j < pn.length := by have : j < pinsN F.ps := hj; omega
      show μe j = μ (nthN pn j)
      simp only [μe, hj', if_true]
    · rw [hcnt2]; have : n < pn.length + is.length := hn; omega
    · have h1 := (updL_some hn).resolve_right (by simp)
      have hb := (hem n o hn).2
      have hXk : o.live = true → ∀ k, blk (μe n) = some k → ce.base ≤ k ∨ ce.X k := fun _ k hk => by
        obtain ⟨n', hn1, _, hn2⟩ := hμe n hb
        exact .inr ⟨n', hn1, by rw [← hn2]; exact hk⟩
      obtain ⟨j, o', h2, h3⟩ := hus2 _ h1
      rcases h3 with ⟨h3, h4, h5⟩ | ⟨h3, h4, h5⟩
      · injection h4 with h4 h6; injection h6 with h6; subst h6; subst h4
        exact ORel_ctx (c1 := c) _ o hXk (fun _ h => h) (fun _ _ => rfl) (fun _ h => h) hb h5
      · injection h4 with h4 h6; injection h6 with h6; subst h6; subst h4
        exact ORel_ctx (c1 := c) _ o hXk (fun _ h => h) (fun _ _ => rfl) (fun _ h => h) hb h5
    · obtain ⟨n1, h1, h2, h3⟩ := hμe i (hem i o hi).2
      obtain ⟨n2, h4, h5, h6⟩ := hμe i' (hem i' o' hi').2
      rw [h3] at hk
      rw [h6] at hk'
      obtain ⟨o1, h7, h8⟩ := hlive n1 h1
      obtain ⟨o2, h9, h10⟩ := hlive n2 h4
      have hb1 := (hem i o hi).2
      have hb2 := (hem i' o' hi').2
      exact hr.dist n1 n2 o1 o2 h7 h9 h8 h10 (fun e => hne (nthN_inj hnd (by simpa using hb1) (by simpa using hb2) (by rw [← h2, ← h5]; exact e))) k hk hk'
  have hpnb : ∀ j, j < ce.np → ¬ (b ≤ nthN pn j ∧ nthN pn j < outB F.ps F.rs q (nthN pn) b) := fun j hj h => by
    obtain ⟨o', h1, _⟩ := hlive (nthN pn j) (List.mem_append_left _ (nthN_mem (by have : j < pinsN F.ps := hj; omega)))
    exact hf _ h.1 (by omega) (hr.names _ o' h1)
  have hpinj : ∀ i j, i < ce.np → j < ce.np → nthN pn i = nthN pn j → i = j := fun i j hi hj h => nthN_inj (List.nodup_append.1 hnd).1 (by have : i < pinsN F.ps := hi; omega) (by have : j < pinsN F.ps := hj; omega) h
  unfold Oper.wp
  rw [hrun, Oper.upon_enter, harr]
  rcases hus with ⟨hflat, rfl⟩ | ⟨hrows, rfl⟩
  · refine Calls.mono (hok.calls k x q hsem ce _ μe Nme hent) (fun e w' he => ?_)
    obtain ⟨v, rfl, hb, hres⟩ := he
    obtain ⟨μr, Nmr, hres⟩ := hres b (nthN pn) hpnb hpinj
    obtain ⟨μ', Nm', g1, g2⟩ := import_ok (b := b) (d := o.dst) (ce := ce) (is := is) hr rfl rfl hplen (fun _ _ => rfl) (fun _ => Iff.rfl) hlive hnd hb hres (.inl hflat) hf hb2 hd
    refine hn _ _ μ' Nm' ?_ g2
    rw [app_put]
    rw [put_mem] at g1
    exact g1
  · rw [frz_agree hag (fun n hn => hnm n (List.mem_append_left _ hn))] at hn
    obtain ⟨k1, k2, k3, k4, k5⟩ := Rel.frzL ns (Froz.refl s'.mem) hr
    have hrow : ∀ n ∈ ns, ∃ f e t xs, s'.mem n = some (.row f e t xs) := fun n hn => by
      rw [hag.mem n (hnm n (List.mem_append_left _ hn))]; exact allRowB_ok hrows n hn
    have hS : ∀ k, withB μ s'.mem (stab c μ s'.mem) ns k → stab c μ (updL s'.mem (frz s'.mem ns)) k := by
      intro k hk
      rcases hk with hk | ⟨n, hn', hl, hk⟩
      · exact k2 k hk
      · exact k3 n hn' (hrow n hn') hl k hk
    have hlive' : ∀ n ∈ pn ++ is, ∃ o, updL s'.mem (frz s'.mem ns) n = some o ∧ o.live = true := fun n hn => by
      obtain ⟨o', h1, h2⟩ := hlive n hn
      exact ⟨o', by rw [k5 n (hdj n hn)]; exact h1, h2⟩
    refine Calls.mono (hok.calls k x q hsem ce _ μe Nme hent) (fun e w' he => ?_)
    obtain ⟨v, rfl, hb, hres⟩ := he
    obtain ⟨μr, Nmr, hres⟩ := hres b (nthN pn) hpnb hpinj
    obtain ⟨μ', Nm', g1, g2⟩ := import_ok (b := b) (d := o.dst) (ce := ce) (is := is) k1 rfl rfl hplen (fun _ _ => rfl) (fun _ => Iff.rfl) hlive' hnd hb hres (.inr hS) hf hb2 hd
    refine hn _ _ μ' Nm' ?_ g2
    rw [app_put, updL_append]
    rw [put_mem, put_mem] at g1
    exact g1
end
end Go.Proofs.Ytinopkpnlibopaa.Ab
