import Derived.Test.YtinopkpnlibopaaAbOps5
import Derived.Great.BuildSlice
/- Stores; literals; the rest. -/
set_option linter.unusedVariables false
set_option linter.unusedSimpArgs false
namespace Go.Proofs.Ytinopkpnlibopaa.Ab
open Go.RowKit

section
variable {P : Program} {E : Env} {c : Ctx} {o : Oper} {s : St} {b : Nat} {R : Type} {κ : Eff → Option R} {r : R}

theorem one_rel {μ : Nat → Value} {Nm S : Nat → Prop} {w : World} {v : AV} {x : Value} (hv : oneA v = true) (h : VRel μ Nm S w v x) : x.oneCell' = true := by
  cases v with
  | undef => cases hv
  | hole => cases hv
  | agg cs => cases hv
  | tup cs => cases hv
  | int k n => simp only [VRel] at h; subst h; rfl
  | bool k => simp only [VRel] at h; subst h; rfl
  | str k => simp only [VRel] at h; subst h; rfl
  | nil => simp only [VRel] at h; subst h; rfl
  | ro e t xs => simp only [VRel] at h; obtain ⟨A, cp, rfl, _⟩ := h; rfl
  | vw n z l hh => simp only [VRel] at h; obtain ⟨_, _, _, A, len, cap, _, _, _, rfl⟩ := h; rfl
  | rz z e t xs => simp only [VRel] at h; obtain ⟨⟨A, cp, rfl, _⟩, _⟩ := h; rfl
  | own n => simp only [VRel] at h; exact h.2.2
  | ptr n off => simp only [VRel] at h; obtain ⟨_, g, _, rfl⟩ := h; rfl
  | elo n z i off => simp only [VRel] at h; obtain ⟨_, g, l, cp, _, _, _, rfl⟩ := h; rfl
  | elr t y off => simp only [VRel] at h; obtain ⟨ad, cs, rfl, _⟩ := h; rfl
  | dyn p c j => cases hv
  | clo f cs => simp only [VRel] at h; obtain ⟨us, rfl, _⟩ := h; rfl

theorem ones_rel {μ : Nat → Value} {Nm S : Nat → Prop} {w : World} : ∀ {cs : List AV} {vs : List Value}, onesA cs = true → VRels μ Nm S w cs vs → ∀ v ∈ vs, v.oneCell' = true
  | [], [], _, _, v, hv => by cases hv
  | [], _ :: _, _, h, _, _ => by simp only [VRels] at h
  | _ :: _, [], _, h, _, _ => by simp only [VRels] at h
  | x :: cs, y :: vs, ho, h, v, hv => by
    simp only [onesA, Bool.and_eq_true] at ho
    simp only [VRels] at h
    rcases List.mem_cons.1 hv with rfl | hv
    · exact one_rel ho.1 h.1
    · exact ones_rel ho.2 h.2 v hv

theorem defA_ones {v : AV} (h : onesA (cellsA v) = true) : defA v = true := by
  cases v <;> first | rfl | simp [cellsA, onesA, oneA] at h

/-- A store into a variable in memory. -/
theorem store_box_ok (hE : EnvOK P E) {T U : TypeId} {p x : Operand} {n off : Nat} {cs : List AV} {u : Ty} (ho : o.op = .store T p x) (hp : ∀ {μ : Nat → Value} {Nm S : Nat → Prop} {w : World} {y : Value}, VRel μ Nm S w (s.op p) y → VRel μ Nm S w (.ptr n off) y) (hm : s.mem n = some (.box U cs)) (hT : E.ty T = some u) (hl : (cellsA (s.op x)).length = u.sz) (hfit : off + u.sz ≤ cs.length) (hone : onesA (cellsA (s.op x)) = true) :
    OpOK P c o s b ⟨.undef, [(n, some (.box U (cs.take off ++ cellsA (s.op x) ++ cs.drop (off + u.sz))))], [n]⟩ := by
  intro s' a w μ Nm next Q hag hr hf hd hn
  have h1 := hr.op p
  rw [hag.ops p (by simp [Op.operands, ho])] at h1
  have h1 := hp h1
  simp only [VRel] at h1
  obtain ⟨hnm, g, hg, h2⟩ := h1
  have hm' : s'.mem n = some (.box U cs) := by rw [hag.mem n (by simp)]; exact hm
  have h3 := hr.objs n _ hm'
  simp only [ORel] at h3
  obtain ⟨g', vs, hg', hbase, hh, hv⟩ := h3
  rw [hg] at hg'
  injection hg' with hg'; injection hg' with hg'; injection hg' with hg'
  subst hg'
  have hx := hr.op x
  rw [hag.ops x (by simp [Op.operands, ho])] at hx
  have hxc := cells_rel (defA_ones hone) hx
  have hxl := VRels_len hxc
  have hvl := VRels_len hv
  have hlt : g < w.heap.size := (Array.getElem?_eq_some_iff.1 hh).1
  have hrun : (Instr.storeAt T (.pointer (some ⟨g, off, none⟩)) (a.eval x)).run P w = .ok () (w.setRow g (vs.toList.take (off + 0) ++ (a.eval x).cells.toList ++ vs.toList.drop (off + 0 + (a.eval x).cells.toList.length)).toArray) := by
    have hs := run_sizeOf' (hE.ty T u hT) w
    have hst := run_storeCells_at (P := P) g off U (a.eval x).cells.toList 0 vs w hh (by rw [← hxl, hl]; simp at hvl; omega) (ones_rel hone hxc)
    have hsz : (a.eval x).cells.size = u.sz := by rw [← hl, hxl]; simp
    simp [Instr.storeAt, Instr.sureAddr, storeVar, hs, hsz, hst, Result.andThen]
  refine wp_skip' (by simp only [execOp, ho, h2]; exact run_u hrun) ?_
  have hlen2 : (a.eval x).cells.toList.length = u.sz := by rw [← hxl, hl]
  rw [Nat.add_zero, hlen2]
  generalize hnew : (vs.toList.take off ++ (a.eval x).cells.toList ++ vs.toList.drop (off + u.sz)).toArray = nv
  have hS : ∀ k, stab c μ s'.mem k → stab c μ (upd1 s'.mem n (some (.box U (cs.take off ++ cellsA (s.op x) ++ cs.drop (off + u.sz))))) k := fun k hk => ⟨hk.1, fun n' o' hn' hl' => by
    rw [upd1_get] at hn'
    by_cases e : n = n'
    · subst e; exact hk.2 n _ hm' rfl
    · simp only [e, if_false] at hn'; exact hk.2 n' o' hn' hl'⟩
  have hgS : ∀ k, stab c μ s'.mem k → k ≠ g := fun k hk e => hk.2 n _ hm' rfl (by rw [hg, e]; rfl)
  have hv2 : VRels μ Nm (stab c μ s'.mem) w (cs.take off ++ cellsA (s.op x) ++ cs.drop (off + u.sz)) nv.toList := by
    rw [← hnew]
    exact VRels_append (VRels_append (VRels_take _ hv) hxc) (VRels_drop _ hv)
  have key : Rel c { s' with mem := upd1 s'.mem n (some (.box U (cs.take off ++ cellsA (s.op x) ++ cs.drop (off + u.sz)))) } a (w.setRow g nv) μ Nm := by
    refine hr.next (s' := { s' with mem := upd1 s'.mem n (some (.box U (cs.take off ++ cellsA (s.op x) ++ cs.drop (off + u.sz)))) }) hr.size hr.defers (hr.below.trans ⟨rfl, rfl, rfl, by simp, fun k hk hX => setRow_other _ _ _ _ (fun e => by subst e; rcases hbase with hb | hb; exact absurd hb (by omega); exact hX hb)⟩) (fun k hk hlt => setRow_other _ _ _ _ (hgS k hk)) (fun k hk _ => hS k hk) (fun _ _ => rfl) (fun _ h => h) (fun n' o' hn' => ?_) (fun n1 n2 o1 o2 q1 q2 l1 l2 hne k hk => ?_) (fun x => .inl ⟨rfl, rfl⟩)
    · simp only [upd1_get] at hn'
      by_cases e : n = n'
      · simp only [e, if_true] at hn'
        injection hn' with hn'; subst hn'; subst e
        refine .inr ⟨hnm, ?_⟩
        simp only [ORel]
        exact ⟨g, nv, hg, hbase, setRow_heap w g vs nv U (0, 0) hh, VRels_step (fun k hk _ => setRow_other _ _ _ _ (hgS k hk)) (fun k hk _ => hS k hk) (fun _ _ => rfl) (fun _ h => h) _ _ hv2⟩
      · simp only [e, if_false] at hn'
        exact .inl ⟨hn', fun hl' k hk => setRow_other _ _ _ _ (fun e2 => hr.dist n n' _ o' hm' hn' rfl hl' e g (by rw [hg]; rfl) (by rw [hk, e2]))⟩
    · simp only [upd1_get] at q1 q2
      have w1 : ∃ o1', s'.mem n1 = some o1' ∧ o1'.live = true := by
        by_cases e : n = n1
        · subst e; exact ⟨_, hm', rfl⟩
        · simp only [e, if_false] at q1; exact ⟨o1, q1, l1⟩
      have w2 : ∃ o2', s'.mem n2 = some o2' ∧ o2'.live = true := by
        by_cases e : n = n2
        · subst e; exact ⟨_, hm', rfl⟩
        · simp only [e, if_false] at q2; exact ⟨o2, q2, l2⟩
      obtain ⟨o1', w1, m1⟩ := w1
      obtain ⟨o2', w2, m2⟩ := w2
      exact hr.dist n1 n2 o1' o2' w1 w2 m1 m2 hne k hk
  have g6 := key.put o.dst hd (v := .undef) (x := undef) (by simp only [VRel])
  refine hn _ _ μ Nm ?_ (fun n hn => .inl hn)
  rw [app_put]
  rw [put_mem] at g6
  exact g6

theorem frz_mem_ne {m : Nat → Option Obj} {ns : List Nat} {n : Nat} (h : memN n ns = false) : n ∉ ns := fun hn => by rw [(memN_iff n ns).2 hn] at h; cases h

/-- A store into an element of a row of the call's own. -/
theorem store_row_ok (hE : EnvOK P E) {T e : TypeId} {p x : Operand} {n z off : Nat} {i : Int} {t u : Ty} {xs : List t.D} {d : t.D} {ns : List Nat} (ho : o.op = .store T p x) (hp : ∀ {μ : Nat → Value} {Nm S : Nat → Prop} {w : World} {y : Value}, VRel μ Nm S w (s.op p) y → VRel μ Nm S w (.elo n z i off) y) (hm : s.mem n = some (.row true e t xs)) (hT : E.ty T = some u) (hz : z = t.sz) (hl : (cellsA (s.op x)).length = u.sz) (hfit : off + u.sz ≤ t.sz) (hdef : defA (s.op x) = true)
    (hpk : pack s.mem t ((unpack t (xs.getD i.toNat t.z)).take off ++ cellsA (s.op x) ++ (unpack t (xs.getD i.toNat t.z)).drop (off + u.sz)) = some (d, [], ns)) (hns : memN n ns = false) :
    OpOK P c o s b ⟨.undef, frz s.mem ns ++ [(n, some (.row true e t (xs.set i.toNat d)))], n :: ns⟩ := by
  intro s' a w μ Nm next Q hag hr0 hf hd hn
  subst hz
  have hm0 : s'.mem n = some (.row true e t xs) := by rw [hag.mem n (by simp)]; exact hm
  rw [frz_agree hag (ns := ns) (fun n hn => by simp [hn])] at hn
  have hnot := frz_mem_ne (m := s.mem) hns
  -- the pack, at the state at hand
  have hpk' := pack_congr (m' := s'.mem) t _ _ _ _ hpk (fun n hn => hag.mem n (by simp [hn]))
  obtain ⟨g1, g2, g3, g4, g5⟩ := Rel.frzL ns (Froz.refl s'.mem) hr0
  have hS0 : ∀ k, withB μ s'.mem (stab c μ s'.mem) ns k → stab c μ (updL s'.mem (frz s'.mem ns)) k := by
    intro k hk
    rcases hk with hk | ⟨n', hn', hl, hk⟩
    · exact g2 k hk
    · exact g3 n' hn' (pack_mem t _ _ _ _ hpk' n' hn') hl k hk
  have h1 := hr0.op p
  rw [hag.ops p (by simp [Op.operands, ho])] at h1
  have h1 := hp h1
  simp only [VRel] at h1
  obtain ⟨hnm, g, len, cap, hg, h0, hi, h2⟩ := h1
  have hx := hr0.op x
  rw [hag.ops x (by simp [Op.operands, ho])] at hx
  have hxc := cells_rel hdef hx
  have hxl := VRels_len hxc
  have hN0 := hr0.objs n _ hm0
  have hN0' := hN0
  simp only [ORel] at hN0
  rw [hg] at hN0
  obtain ⟨cv, hcl, hfk, hcc⟩ := row_elem hN0' hg h0 hi
  have hcells : VRels μ Nm (stab c μ s'.mem) w ((unpack t (xs.getD i.toNat t.z)).take off ++ cellsA (s.op x) ++ (unpack t (xs.getD i.toNat t.z)).drop (off + u.sz)) (cv.take off ++ (a.eval x).cells.toList ++ cv.drop (off + u.sz)) := by
    have hu := unpack_rel (μ := μ) (Nm := Nm) t _ cv hfk
    exact VRels_append (VRels_append (VRels_take _ hu) hxc) (VRels_drop _ hu)
  obtain ⟨v0, v1, hve, hfk2, hv1⟩ := pack_rel hr0.objs t _ _ _ _ _ hpk' hcells
  have hv1' : v1 = [] := by
    cases v1 with
    | nil => rfl
    | cons _ _ => simp only [VRels] at hv1
  subst hv1'
  rw [List.append_nil] at hve
  have hlen2 : (a.eval x).cells.toList.length = u.sz := by rw [← hxl, hl]
  -- the same, frozen
  have hm1 : updL s'.mem (frz s'.mem ns) n = some (.row true e t xs) := by rw [g5 n hnot]; exact hm0
  have hN1 := g1.objs n _ hm1
  simp only [ORel] at hN1
  rw [hg] at hN1
  have hgS : ∀ k, stab c μ (updL s'.mem (frz s'.mem ns)) k → k ≠ g := fun k hk e => hk.2 n _ hm1 rfl (by rw [hg, e]; rfl)
  have hseg := Kd.N_seg hN1.1 (c := cv) (seg := (a.eval x).cells.toList) (j := off) i h0 (by exact_mod_cast hi) (by rw [kd_sz]; exact hcl) (by rw [kd_sz]; exact hcc) (by rw [kd_sz, hlen2]; exact hfit) (x' := d) (okp := fun k => stab c μ (updL s'.mem (frz s'.mem ns)) k) (by
    rw [hlen2, hve]; exact Kd.FK_mono hfk2 hS0) (fun k hk => ⟨.inl hk, hgS k hk⟩)
  rw [kd_sz] at hseg
  obtain ⟨hN2, hgrown⟩ := hseg
  have hone : ∀ q ∈ (a.eval x).cells.toList, q.oneCell' = true := fun q hq => t.kd.one hfk2 q (by rw [← hve]; simp [hq])
  have hthere : ∀ j, j < (a.eval x).cells.toList.length → (w.cell? ⟨g, i.toNat * t.sz + off + 0 + j, none⟩).isSome = true ∧ w.frozen? ⟨g, i.toNat * t.sz + off + 0 + j, none⟩ = false := by
    intro j hj
    rw [hlen2] at hj
    have hjl : off + j < cv.length := by omega
    have h5 := hcc (off + j) _ (List.getElem?_eq_getElem hjl)
    have e1 : i.toNat * t.sz + off + 0 + j = i.toNat * t.sz + (off + j) := by omega
    rw [e1]
    refine ⟨by rw [h5]; rfl, ?_⟩
    obtain ⟨_, _, _, _, h6⟩ := Kd.N_elem hN0.1 t.z i h0 (by exact_mod_cast hi)
    have := h6 (off + j)
    rw [kd_sz] at this
    exact this
  have hrun : (Instr.storeAt T (.pointer (some ⟨g, i.toNat * t.sz + off, none⟩)) (a.eval x)).run P w = .ok () (w.setCells g (i.toNat * t.sz + off) (a.eval x).cells.toList) := by
    have hs := run_sizeOf' (hE.ty T u hT) w
    have hst := run_storeCells_cells (P := P) g (i.toNat * t.sz + off) (a.eval x).cells.toList 0 w (fun j hj => (hthere j hj).1) (fun j hj => (hthere j hj).2) hone
    have hsz : (a.eval x).cells.size = u.sz := by rw [← hl, hxl]; simp
    rw [Nat.add_zero] at hst
    simp [Instr.storeAt, Instr.sureAddr, storeVar, hs, hsz, hst, Result.andThen]
  refine wp_skip' (by simp only [execOp, ho, h2]; exact run_u hrun) ?_
  have hS : ∀ k, stab c μ (updL s'.mem (frz s'.mem ns)) k → stab c μ (upd1 (updL s'.mem (frz s'.mem ns)) n (some (.row true e t (xs.set i.toNat d)))) k := fun k hk => ⟨hk.1, fun n' o' hn' hl' => by
    rw [upd1_get] at hn'
    by_cases e : n = n'
    · subst e; exact hk.2 n _ hm1 rfl
    · simp only [e, if_false] at hn'; exact hk.2 n' o' hn' hl'⟩
  have key : Rel c { s' with mem := upd1 (updL s'.mem (frz s'.mem ns)) n (some (.row true e t (xs.set i.toNat d))) } a (w.setCells g (i.toNat * t.sz + off) (a.eval x).cells.toList) μ Nm := by
    have hbase : c.base ≤ g ∨ c.X g := hN1.2 g (by simp [Value.ownBlock])
    refine g1.next (s' := { s' with mem := upd1 (updL s'.mem (frz s'.mem ns)) n (some (.row true e t (xs.set i.toNat d))) }) g1.size g1.defers (g1.below.trans ⟨hgrown.os, hgrown.tape, hgrown.output, hgrown.size, fun k hk hX => hgrown.block k (Nat.lt_of_lt_of_le hk g1.below.size) (fun e => by injection e with e; subst e; rcases hbase with h | h; exact absurd hk (by omega); exact hX h)⟩) (fun k hk hlt => hgrown.block k hlt (fun e => hgS k hk (by injection e))) (fun k hk _ => hS k hk) (fun _ _ => rfl) (fun _ h => h) (fun n' o' hn' => ?_) (fun n1 n2 o1 o2 q1 q2 l1 l2 hne k hk => ?_) (fun x => .inl ⟨rfl, rfl⟩)
    · simp only [upd1_get] at hn'
      by_cases e : n = n'
      · simp only [e, if_true] at hn'
        injection hn' with hn'; subst hn'; subst e
        refine .inr ⟨hnm, ?_⟩
        simp only [ORel]
        rw [hg]
        exact ⟨Kd.N_mono hN2 (fun k hk => hk.imp (hS k) id), fun k hk => by simp [Value.ownBlock] at hk; subst hk; exact hbase⟩
      · simp only [e, if_false] at hn'
        exact .inl ⟨hn', fun hl' k hk => hgrown.block k (g1.stab_lt hn' hl' hk).2.1 (fun e2 => g1.dist n n' _ o' hm1 hn' rfl hl' e g (by rw [hg]; rfl) (by rw [hk]; exact e2))⟩
    · simp only [upd1_get] at q1 q2
      have w1 : ∃ o1', updL s'.mem (frz s'.mem ns) n1 = some o1' ∧ o1'.live = true := by
        by_cases e : n = n1
        · subst e; exact ⟨_, hm1, rfl⟩
        · simp only [e, if_false] at q1; exact ⟨o1, q1, l1⟩
      have w2 : ∃ o2', updL s'.mem (frz s'.mem ns) n2 = some o2' ∧ o2'.live = true := by
        by_cases e : n = n2
        · subst e; exact ⟨_, hm1, rfl⟩
        · simp only [e, if_false] at q2; exact ⟨o2, q2, l2⟩
      obtain ⟨o1', w1, m1⟩ := w1
      obtain ⟨o2', w2, m2⟩ := w2
      exact g1.dist n1 n2 o1' o2' w1 w2 m1 m2 hne k hk
  have g6 := key.put o.dst hd (v := .undef) (x := undef) (by simp only [VRel])
  refine hn _ _ μ Nm ?_ (fun n hn => .inl hn)
  rw [app_put, updL_append]
  rw [put_mem] at g6
  exact g6

/-- Parts of a literal, one by one. -/
theorem elems_rel {μ : Nat → Value} {Nm : Nat → Prop} {S : Nat → Prop} {w : World} {m : Nat → Option Obj} (hm : ∀ n o, m n = some o → ORel c μ Nm S w n o) (t : Ty) : ∀ (ps : List (Nat × AV)) (vs : List Value) (i : Nat) (ds : List t.D) (ns : List Nat), elemsOf m t i ps = some (ds, ns) → VRels μ Nm S w (ps.map (·.2)) vs →
    ps.map (·.1) = (List.range' i vs.length) ∧ ds.length = vs.length ∧ (∀ v ∈ vs, v.cells.size = t.sz) ∧ ∀ (j : Nat) (d : t.D) (v : Value), ds[j]? = some d → vs[j]? = some v → Kd.FK t.kd w (withB μ m S ns) d v.cells.toList
  | [], [], i, ds, ns, h, _ => by
    simp only [elemsOf] at h; injection h with h; injection h with h1 h2; subst h1; subst h2
    exact ⟨rfl, rfl, by simp, by simp⟩
  | [], _ :: _, _, _, _, _, hv => by simp only [List.map_nil, VRels] at hv
  | _ :: _, [], _, _, _, _, hv => by simp only [List.map_cons, VRels] at hv
  | (j, x) :: ps, v :: vs, i, ds, ns, h, hv => by
    simp only [List.map_cons, VRels] at hv
    simp only [elemsOf] at h
    split at h
    · rename_i hij
      simp only [Bool.and_eq_true] at hij
      have hdef := hij.2
      have hij := Nat.eq_of_beq_eq_true hij.1
      subst hij
      split at h
      · rename_i d ns1 hp
        split at h
        · rename_i ds' ns2 hr
          injection h with h; injection h with h1 h2; subst h1; subst h2
          obtain ⟨g1, g2, g3, g4⟩ := elems_rel hm t ps vs (i + 1) ds' ns2 hr hv.2
          obtain ⟨v0, v1, hve, hf, hv1⟩ := pack_rel hm t _ _ _ _ _ hp (cells_rel hdef hv.1)
          have hv1' : v1 = [] := by
            cases v1 with
            | nil => rfl
            | cons _ _ => simp only [VRels] at hv1
          subst hv1'
          rw [List.append_nil] at hve
          refine ⟨by simp [g1, List.range'], by simp [g2], ?_, ?_⟩
          · intro u hu
            rcases List.mem_cons.1 hu with rfl | hu
            · rw [← kd_sz, ← t.kd.len hf, ← hve]; simp
            · exact g3 u hu
          · intro q d' v' hd' hv'
            cases q with
            | zero =>
              simp only [List.getElem?_cons_zero, Option.some.injEq] at hd' hv'
              subst hd'; subst hv'
              rw [hve]
              exact Kd.FK_mono hf (fun k hk => withB_left hk)
            | succ q =>
              simp only [List.getElem?_cons_succ] at hd' hv'
              exact Kd.FK_mono (g4 q d' v' hd' hv') (fun k hk => withB_right hk)
        · cases h
      · cases h
    · cases h

theorem elems_mem {m : Nat → Option Obj} (t : Ty) : ∀ (ps : List (Nat × AV)) (i : Nat) (ds : List t.D) (ns : List Nat), elemsOf m t i ps = some (ds, ns) → ∀ n ∈ ns, ∃ f e' t' ys, m n = some (.row f e' t' ys)
  | [], i, ds, ns, h => by simp only [elemsOf] at h; injection h with h; injection h with h1 h2; subst h2; simp
  | (j, x) :: ps, i, ds, ns, h => by
    simp only [elemsOf] at h
    split at h
    · split at h
      · rename_i d ns1 hp
        split at h
        · rename_i ds' ns2 hr
          injection h with h; injection h with h1 h2; subst h2
          intro n hn
          rcases List.mem_append.1 hn with hn | hn
          · exact pack_mem t _ _ _ _ hp n hn
          · exact elems_mem t ps (i + 1) ds' ns2 hr n hn
        · cases h
      · cases h
    · cases h

theorem elems_congr {m m' : Nat → Option Obj} (t : Ty) : ∀ (ps : List (Nat × AV)) (i : Nat) (ds : List t.D) (ns : List Nat), elemsOf m t i ps = some (ds, ns) → (∀ n ∈ ns, m' n = m n) → elemsOf m' t i ps = some (ds, ns)
  | [], i, ds, ns, h, _ => h
  | (j, x) :: ps, i, ds, ns, h, hm => by
    simp only [elemsOf] at h ⊢
    split at h
    · rename_i hij
      split at h
      · rename_i d ns1 hp
        split at h
        · rename_i ds' ns2 hr
          injection h with h; injection h with h1 h2; subst h1; subst h2
          rw [pack_congr t _ _ _ _ hp (fun n hn => hm n (List.mem_append_left _ hn))]
          simp only
          rw [elems_congr t ps (i + 1) ds' ns2 hr (fun n hn => hm n (List.mem_append_right _ hn))]
        · cases h
      · cases h
    · cases h

theorem mapOpP_fst (s : St) : ∀ l : List (Nat × Operand), (mapOpP s l).map (·.1) = l.map (·.1)
  | [] => rfl
  | (i, x) :: r => by simp [mapOpP, mapOpP_fst s r]
theorem mapOpP_rel {s : St} {a : Act} {w : World} {μ : Nat → Value} {Nm : Nat → Prop} (hr : Rel c s a w μ Nm) : ∀ l : List (Nat × Operand), VRels μ Nm (stab c μ s.mem) w ((mapOpP s l).map (·.2)) (l.map fun p => a.eval p.2)
  | [] => by simp [mapOpP, VRels]
  | (i, x) :: r => by simp only [mapOpP, List.map_cons, VRels]; exact ⟨hr.op x, mapOpP_rel hr r⟩
theorem mapOpP_congr {s s' : St} : ∀ {l : List (Nat × Operand)}, (∀ p ∈ l, s'.op p.2 = s.op p.2) → mapOpP s' l = mapOpP s l
  | [], _ => rfl
  | (i, x) :: r, h => by
    simp only [mapOpP]
    rw [h (i, x) List.mem_cons_self, mapOpP_congr (fun p hp => h p (List.mem_cons_of_mem _ hp))]

theorem zip_range : ∀ (l : List (Nat × Operand)) (a : Act) (i : Nat), l.map (·.1) = List.range' i l.length → (l.map fun p => (p.1, a.eval p.2)) = (((l.map fun p => a.eval p.2).zipIdx i).map fun x => (x.2, x.1))
  | [], _, _, _ => rfl
  | (j, x) :: r, a, i, h => by
    simp only [List.map_cons, List.length_cons, List.range'_succ, List.cons.injEq] at h
    obtain ⟨rfl, h⟩ := h
    simp only [List.map_cons, List.zipIdx_cons, List.cons.injEq, true_and]
    exact zip_range r a (j + 1) h

theorem lenL_eq {α : Type} : ∀ l : List α, lenL l = l.length
  | [] => rfl
  | _ :: r => by simp [lenL, lenL_eq r]

theorem buildSlice_ok (hE : EnvOK P E) {T e : TypeId} {t : Ty} {n : Nat} {ps : Array (Nat × Operand)} {xs : List t.D} {ns : List Nat} {d : Tmp} (ho : o.op = .buildSlice T n ps) (hdst : o.dst = some d) (hT : E.elem T = some e) (ht : E.ty e = some t) (hel : elemsOf s.mem t 0 (mapOpP s ps.toList) = some (xs, ns)) (hn : n = xs.length) (hsm : n * t.sz ≤ 16777216) :
    OpOK P c o s b ⟨.own b, frz s.mem ns ++ [(b, some (.row true e t xs))], b :: ns⟩ := by
  intro s' a w μ Nm next Q hag hr hf hd hnx
  rw [frz_agree hag (ns := ns) (fun n hn => by simp [hn])] at hnx
  have hcong : mapOpP s' ps.toList = mapOpP s ps.toList := mapOpP_congr (fun p hp => hag.ops p.2 (by simp [Op.operands, ho]; exact ⟨p.1, by simpa using hp⟩))
  have hel' := elems_congr (m' := s'.mem) t _ _ _ _ hel (fun n hn => hag.mem n (by simp [hn]))
  rw [← hcong] at hel'
  obtain ⟨q1, q2, q3, q4⟩ := elems_rel hr.objs t _ _ 0 xs ns hel' (mapOpP_rel hr ps.toList)
  rw [mapOpP_fst] at q1
  obtain ⟨g1, g2, g3, g4, g5⟩ := Rel.frzL ns (Froz.refl s'.mem) hr
  have hS : ∀ k, withB μ s'.mem (stab c μ s'.mem) ns k → stab c μ (updL s'.mem (frz s'.mem ns)) k := by
    intro k hk
    rcases hk with hk | ⟨n, hn', hl, hk⟩
    · exact g2 k hk
    · exact g3 n hn' (elems_mem t _ _ _ _ hel' n hn') hl k hk
  have hTy := hE.ty e t ht
  obtain ⟨ie, z, hie, hsz, _, hz, hzc⟩ := hTy.info
  have hlen : (ps.toList.map fun p => a.eval p.2).length = n := by rw [← q2, hn]
  have hpl : ps.toList.length = n := by simpa using hlen
  have hpos := hTy.pos
  have hrun : (execOp a.eval o).run P w = .ok (.value (.slice (some ⟨w.heap.size, 0, none⟩) xs.length xs.length)) (w.alloc (.cells (((ps.toList.map fun p => a.eval p.2).flatMap fun v => v.cells.toList).toArray) e)) := by
    simp only [execOp, ho]
    refine run_v ?_
    rw [← hn]
    have hparts : (ps.map fun (i, x) => (i, a.eval x)).toList = (((ps.toList.map fun p => a.eval p.2).zipIdx 0).map fun x => (x.2, x.1)) := by
      rw [Array.toList_map]
      exact zip_range ps.toList a 0 (by rw [q1, hlen, hpl])
    by_cases h0 : n = 0
    · have hemp : ps.toList = [] := List.eq_nil_of_length_eq_zero (by rw [hpl, h0])
      have hpe : ps = #[] := by cases ps; simpa using hemp
      subst h0
      subst hpe
      simp [Instr.buildSlice, run_underlying (hE.elem T e hT), sizeOf, typeInfo, hie, Instr.fill, newRow, newObj, Sem.run, Result.andThen]
      congr 2
      exact Array.eq_empty_of_size_eq_zero (by simp)
    · refine run_buildSlice w T e n _ _ ie z (hE.elem T e hT) hie hz (by rw [hsz]; omega) (by rw [hsz]; exact Nat.mul_ne_zero h0 (by omega)) ?_
      rw [hparts, hsz]
      exact Great.fill_whole hpos _ _ q3 (by rw [hlen]; simp)
  have hrep : Reps (Kd.FK t.kd w (fun k => stab c μ (updL s'.mem (frz s'.mem ns)) k ∧ k < w.heap.size)) t.kd.sz xs ((ps.toList.map fun p => a.eval p.2).flatMap fun v => v.cells.toList) := by
    generalize (ps.toList.map fun p => a.eval p.2) = vs at q2 q3 q4
    exact reps_flat xs vs q2 (fun v hv => by rw [kd_sz]; have := q3 v hv; simpa using this) (fun j x v hj hv => Kd.FK_mono (Kd.FK_bound (q4 j x v hj hv)) (fun k hk => ⟨hS k hk.1, hk.2⟩))
  refine Kd.N_lit (d := t.kd) (base := 0) (okp := fun k => stab c μ (updL s'.mem (frz s'.mem ns)) k ∧ k < w.heap.size) (ok := fun k => (stab c μ (updL s'.mem (frz s'.mem ns)) k ∧ k < w.heap.size) ∨ w.heap.size ≤ k) hrun hrep (fun k hk => .inl hk) (.inr (Nat.le_refl _)) (Nat.zero_le _) (by
    have : xs.length ≤ n * t.sz := by rw [← hn]; exact Nat.le_mul_of_pos_right _ hpos
    omega) (fun v1 w1 hN hg hat => ?_)
  refine new_row (s' := { s' with mem := updL s'.mem (frz s'.mem ns) }) (nm := b :: ns) g1 hf hd hN hg hat (fun a' w' μ' Nm' h1 h2 => hnx a' w' μ' Nm' ?_ h2)
  rw [app_put] at h1 ⊢
  rw [put_mem] at h1
  rw [updL_append]
  exact h1

theorem store_dyn_box (hE : EnvOK P E) {T U : TypeId} {p x : Operand} {n off c' : Nat} {j : Int} {cs cs' : List AV} (ho : o.op = .store T p x) (hp : s.op p = .dyn (.ptr n off) c' j) (hm : s.mem n = some (.box U cs)) (hs : storeD E T cs off c' j (s.op x) = some cs') :
    OpOK P c o s b ⟨.undef, [(n, some (.box U cs'))], [n]⟩ := by
  intro s' a w μ Nm next Q hag hr hf hd hn
  obtain ⟨h0, hj⟩ := dyn_bounds hr (by rw [hag.ops p (by simp [Op.operands, ho]), hp])
  obtain ⟨h1, ⟨u, hT, hu⟩, h3, h4, h5, h6⟩ := storeD_eq hs h0 hj
  subst h1
  refine store_box_ok (b := b) (off := off + j.toNat) hE ho (fun h => ?_) hm hT (by rw [h3, hu]) (by rw [hu]; exact h6) h4 s' a w μ Nm next Q hag hr hf hd (by rw [hu]; exact hn)
  rw [hp] at h; simp only [VRel] at h ⊢; exact h.2
theorem store_dyn_row (hE : EnvOK P E) {T e : TypeId} {p x : Operand} {n z off c' : Nat} {i j : Int} {t : Ty} {xs : List t.D} {d : t.D} {cs' : List AV} {ns : List Nat} (ho : o.op = .store T p x) (hp : s.op p = .dyn (.elo n z i off) c' j) (hm : s.mem n = some (.row true e t xs)) (hz : z = t.sz)
    (hs : storeD E T (unpack t (xs.getD i.toNat t.z)) off c' j (s.op x) = some cs') (hpk : pack s.mem t cs' = some (d, [], ns)) (hns : memN n ns = false) :
    OpOK P c o s b ⟨.undef, frz s.mem ns ++ [(n, some (.row true e t (xs.set i.toNat d)))], n :: ns⟩ := by
  intro s' a w μ Nm next Q hag hr hf hd hn
  obtain ⟨h0, hj⟩ := dyn_bounds hr (by rw [hag.ops p (by simp [Op.operands, ho]), hp])
  obtain ⟨h1, ⟨u, hT, hu⟩, h3, h4, h5, h6⟩ := storeD_eq hs h0 hj
  subst h1
  rw [unpack_len] at h6
  refine store_row_ok (b := b) (off := off + j.toNat) hE ho (fun h => ?_) hm hT hz (by rw [h3, hu]) (by rw [hu]; exact h6) h5 (by rw [hu]; exact hpk) hns s' a w μ Nm next Q hag hr hf hd hn
  rw [hp] at h; simp only [VRel] at h ⊢; exact h.2
end
end Go.Proofs.Ytinopkpnlibopaa.Ab
