import Derived.Test.YtinopkpnlibopaaAbOps1
/- Operations that read memory, and addresses. -/
set_option linter.unusedVariables false
set_option linter.unusedSimpArgs false
namespace Go.Proofs.Ytinopkpnlibopaa.Ab
open Go.RowKit

section
variable {P : Program} {E : Env} {c : Ctx} {o : Oper} {s : St} {b : Nat} {R : Type} {κ : Eff → Option R} {r : R}
variable {μ : Nat → Value} {Nm S : Nat → Prop} {w : World}

theorem add_add (ad : Addr) (m n : Nat) : (ad.add m).add n = ad.add (m + n) := by
  unfold Addr.add
  by_cases h1 : m = 0
  · subst h1; simp
  · by_cases h2 : n = 0
    · subst h2; simp
    · simp [h1, h2, Nat.add_assoc]


theorem run_isAgg {T : TypeId} {t : Ty} (hT : TyOK P E T t) (w : World) : (isAgg T).run P w = .ok (E.agg T) w := by
  obtain ⟨d, hu, hd⟩ := hT.und
  unfold isAgg
  rw [Sem.run_bind, run_underlying hu w]
  rw [← hd]
  cases d <;> rfl

theorem run_sizeOf' {T : TypeId} {t : Ty} (hT : TyOK P E T t) (w : World) : (sizeOf T).run P w = .ok t.sz w := by
  obtain ⟨i, z, hi, hs, _⟩ := hT.info
  simp [sizeOf, typeInfo, hi, hs]

theorem run_loadVar' {T : TypeId} {t : Ty} (hT : TyOK P E T t) {ad : Addr} {cs : List Value} (hl : cs.length = t.sz) (hc : ∀ j u, cs[j]? = some u → w.cell? (ad.add j) = some u) : (loadVar T ad).run P w = .ok (wrapV (E.agg T) cs) w := by
  unfold loadVar
  rw [Sem.run_bind, run_isAgg hT w]
  cases hA : E.agg T with
  | true =>
    have h1 := run_loadCells_list (P := P) w ad cs hc
    rw [hl] at h1
    simp [Result.andThen, Sem.run_bind, run_sizeOf' hT w, h1, wrapV]
  | false =>
    have h1 := hT.one hA
    rw [h1] at hl
    match cs, hl with
    | [u], _ =>
      have h2 := hc 0 u rfl
      have h3 : ad.add 0 = ad := by simp [Addr.add]
      rw [h3] at h2
      simp [Result.andThen, load, wrapV, Sem.run, h2]

theorem wrap_rel {agg : Bool} {cs : List AV} {vs : List Value} (h : VRels μ Nm S w cs vs) : VRel μ Nm S w (wrapA agg cs) (wrapV agg vs) := by
  cases agg with
  | true => simp only [wrapA, wrapV, VRel]; exact ⟨vs.toArray, rfl, by simpa using h⟩
  | false => simp only [wrapA, wrapV]; exact VRels_get h 0

theorem loadA_run (hE : EnvOK P E) {T : TypeId} {cs : List AV} {off : Nat} {v : AV} {vs : List Value} {ad : Addr} (h : loadA E T cs off = some v) (hv : VRels μ Nm S w cs vs) (hc : ∀ j u, vs[j]? = some u → w.cell? (ad.add j) = some u) :
    ∃ x, (Instr.loadAt T (.pointer (some (ad.add off)))).run P w = .ok x w ∧ VRel μ Nm S w v x := by
  unfold loadA at h
  split at h
  · rename_i t ht
    split at h
    · rename_i hl
      injection h with h; subst h
      rw [takeA_eq, dropA_eq] at hl ⊢
      have h1 := Nat.eq_of_beq_eq_true hl
      rw [lenA_eq] at h1
      have h2 : VRels μ Nm S w ((cs.drop off).take t.sz) ((vs.drop off).take t.sz) := VRels_take _ (VRels_drop _ hv)
      refine ⟨_, ?_, wrap_rel h2⟩
      unfold Instr.loadAt Instr.sureAddr
      rw [Sem.run_bind]
      simp only [Sem.run_pure, Result.andThen_ok]
      refine run_loadVar' (hE.ty T t ht) (by rw [← VRels_len h2]; exact h1) (fun j u hu => ?_)
      rw [List.getElem?_take] at hu
      split at hu
      · rw [List.getElem?_drop] at hu
        rw [add_add]
        exact hc _ _ hu
      · cases hu
    · cases h
  · cases h

theorem box_cells {g : Nat} {vs : Array Value} {T : TypeId} (h : w.heap[g]? = some (.cells vs T (0, 0))) : ∀ j u, vs.toList[j]? = some u → w.cell? ((⟨g, 0, none⟩ : Addr).add j) = some u := by
  intro j u hu
  rw [Addr.add_mid]
  simp only [World.cell?, h, Nat.zero_add]
  simpa using hu

/-- A row of the call's own, frozen or not: its elements' cells. -/
theorem row_elem {n : Nat} {f : Bool} {e : TypeId} {t : Ty} {xs : List t.D} {g len cap : Nat} {i : Int} (h : ORel c μ Nm S w n (.row f e t xs)) (hμ : μ n = .slice (some ⟨g, 0, none⟩) len cap) (h0 : 0 ≤ i) (h1 : i < (len : Int)) :
    ∃ cs : List Value, cs.length = t.sz ∧ Kd.FK t.kd w S (xs.getD i.toNat t.z) cs ∧ ∀ j u, cs[j]? = some u → w.cell? ⟨g, i.toNat * t.sz + j, none⟩ = some u := by
  cases f with
  | true =>
    simp only [ORel] at h
    rw [hμ] at h
    obtain ⟨cs, hl, hf, hc, _⟩ := Kd.N_elem h.1 t.z i h0 h1
    rw [kd_sz] at hl hc
    refine ⟨cs, hl, Kd.FK_mono hf (fun k hk => ?_), hc⟩
    rcases hk.1 with h2 | h2
    · exact h2
    · simp [Value.ownBlock] at h2; exact absurd h2 hk.2
  | false =>
    simp only [ORel] at h
    rw [hμ] at h
    obtain ⟨cs, hl, hf, hc⟩ := Kd.V_get h t.z i h0 h1
    rw [kd_sz] at hl hc
    exact ⟨cs, hl, hf, fun j u hu => by have := hc j u hu; rwa [Addr.add_mid, Nat.zero_add] at this⟩

theorem load_ptr_ok (hE : EnvOK P E) {T U : TypeId} {x : Operand} {n off : Nat} {cs : List AV} {v : AV} (ho : o.op = .load T x) (hx : ∀ {μ : Nat → Value} {Nm S : Nat → Prop} {w : World} {y : Value}, VRel μ Nm S w (s.op x) y → VRel μ Nm S w (.ptr n off) y) (hm : s.mem n = some (.box U cs)) (hl : loadA E T cs off = some v) : OpOK P c o s b ⟨v, [], [n]⟩ := by
  refine OpOK.pure fun s' a w μ Nm hag hr => ?_
  have h1 := hr.op x
  rw [hag.ops x (by simp [Op.operands, ho])] at h1
  have h1 := hx h1
  simp only [VRel] at h1
  obtain ⟨_, g, hg, h2⟩ := h1
  have h3 := hr.objs n _ (by rw [hag.mem n (by simp)]; exact hm)
  simp only [ORel] at h3
  obtain ⟨g', vs, hg', _, hh, hv⟩ := h3
  rw [hg] at hg'
  injection hg' with hg'; injection hg' with hg'; injection hg' with hg'
  subst hg'
  obtain ⟨z, h4, h5⟩ := loadA_run hE hl hv (box_cells hh)
  rw [Addr.add_mid, Nat.zero_add] at h4
  exact ⟨z, by simp only [execOp, ho, h2]; exact run_v h4, h5⟩

theorem load_elr_ok (hE : EnvOK P E) {T : TypeId} {x : Operand} {t : Ty} {y : t.D} {off : Nat} {v : AV} (ho : o.op = .load T x) (hx : ∀ {μ : Nat → Value} {Nm S : Nat → Prop} {w : World} {z : Value}, VRel μ Nm S w (s.op x) z → VRel μ Nm S w (.elr t y off) z) (hl : loadA E T (unpack t y) off = some v) : OpOK P c o s b ⟨v, [], []⟩ := by
  refine OpOK.pure fun s' a w μ Nm hag hr => ?_
  have h1 := hr.op x
  rw [hag.ops x (by simp [Op.operands, ho])] at h1
  have h1 := hx h1
  simp only [VRel] at h1
  obtain ⟨ad, cs, h2, hf, hc, _⟩ := h1
  obtain ⟨z, h4, h5⟩ := loadA_run (μ := μ) (Nm := Nm) hE hl (unpack_rel t y cs hf) hc
  exact ⟨z, by simp only [execOp, ho, h2]; exact run_v h4, h5⟩

theorem load_elo_ok (hE : EnvOK P E) {T : TypeId} {x : Operand} {n z : Nat} {i : Int} {off : Nat} {f : Bool} {e : TypeId} {t : Ty} {xs : List t.D} {v : AV} (ho : o.op = .load T x) (hx : ∀ {μ : Nat → Value} {Nm S : Nat → Prop} {w : World} {y : Value}, VRel μ Nm S w (s.op x) y → VRel μ Nm S w (.elo n z i off) y) (hm : s.mem n = some (.row f e t xs)) (hz : z = t.sz) (hl : loadA E T (unpack t (xs.getD i.toNat t.z)) off = some v) : OpOK P c o s b ⟨v, [], [n]⟩ := by
  refine OpOK.pure fun s' a w μ Nm hag hr => ?_
  have h1 := hr.op x
  rw [hag.ops x (by simp [Op.operands, ho])] at h1
  have h1 := hx h1
  simp only [VRel] at h1
  obtain ⟨_, g, len, cap, hg, h0, hi, h2⟩ := h1
  have h3 := hr.objs n _ (by rw [hag.mem n (by simp)]; exact hm)
  obtain ⟨cs, _, hf, hc⟩ := row_elem h3 hg h0 hi
  subst hz
  obtain ⟨y, h4, h5⟩ := loadA_run (ad := ⟨g, i.toNat * t.sz, none⟩) hE hl (unpack_rel (μ := μ) (Nm := Nm) t _ cs hf) (fun j u hu => by rw [Addr.add_mid]; exact hc j u hu)
  rw [Addr.add_mid] at h4
  exact ⟨y, by simp only [execOp, ho, h2]; exact run_v h4, h5⟩

theorem run_fieldAt (hE : EnvOK P E) {T U : TypeId} {f o' : Nat} {u : Ty} (hf : E.fld T f = some (o', U)) (hu : E.ty U = some u) (ad : Addr) : (Instr.fieldAt T (.pointer (some ad)) f).run P w = .ok (.pointer (some (ad.add o'))) w := by
  obtain ⟨fs, fd, h1, h2, h3, h4⟩ := hE.fld T f o' U hf
  have hz : u.sz ≠ 0 := by have := (hE.ty U u hu).pos; omega
  have hs := run_sizeOf' (hE.ty U u hu) w
  rw [← h4] at hs
  simp [Instr.fieldAt, run_underlying h1, h2, Instr.sureAddr, fieldPlace, hs, hz, h3, Result.andThen]

theorem fieldAddr_ptr_ok (hE : EnvOK P E) {T U : TypeId} {x : Operand} {f o' n off : Nat} {u : Ty} (ho : o.op = .fieldAddr T x f) (hf : E.fld T f = some (o', U)) (hu : E.ty U = some u) (hx : s.op x = .ptr n off) : OpOK P c o s b ⟨.ptr n (off + o'), [], []⟩ := by
  refine OpOK.pure fun s' a w μ Nm hag hr => ?_
  have h1 := hr.op x
  rw [hag.ops x (by simp [Op.operands, ho]), hx] at h1
  simp only [VRel] at h1
  obtain ⟨hn, g, hg, h2⟩ := h1
  refine ⟨_, by simp only [execOp, ho, h2]; exact run_v (run_fieldAt hE hf hu _), ?_⟩
  rw [Addr.add_mid]
  simp only [VRel]
  exact ⟨hn, g, hg, rfl⟩

theorem fieldAddr_elo_ok (hE : EnvOK P E) {T U : TypeId} {x : Operand} {f o' n z off : Nat} {i : Int} {u : Ty} (ho : o.op = .fieldAddr T x f) (hf : E.fld T f = some (o', U)) (hu : E.ty U = some u) (hx : s.op x = .elo n z i off) : OpOK P c o s b ⟨.elo n z i (off + o'), [], []⟩ := by
  refine OpOK.pure fun s' a w μ Nm hag hr => ?_
  have h1 := hr.op x
  rw [hag.ops x (by simp [Op.operands, ho]), hx] at h1
  simp only [VRel] at h1
  obtain ⟨hn, g, len, cap, hg, h0, hi, h2⟩ := h1
  refine ⟨_, by simp only [execOp, ho, h2]; exact run_v (run_fieldAt hE hf hu _), ?_⟩
  rw [Addr.add_mid]
  simp only [VRel]
  exact ⟨hn, g, len, cap, hg, h0, hi, by rw [Nat.add_assoc]⟩

theorem fieldAddr_elr_ok (hE : EnvOK P E) {T U : TypeId} {x : Operand} {f o' off : Nat} {t : Ty} {y : t.D} {u : Ty} (ho : o.op = .fieldAddr T x f) (hf : E.fld T f = some (o', U)) (hu : E.ty U = some u) (hx : s.op x = .elr t y off) : OpOK P c o s b ⟨.elr t y (off + o'), [], []⟩ := by
  refine OpOK.pure fun s' a w μ Nm hag hr => ?_
  have h1 := hr.op x
  rw [hag.ops x (by simp [Op.operands, ho]), hx] at h1
  simp only [VRel] at h1
  obtain ⟨ad, cs, h2, hr2⟩ := h1
  refine ⟨_, by simp only [execOp, ho, h2]; exact run_v (run_fieldAt hE hf hu _), ?_⟩
  rw [add_add]
  simp only [VRel]
  exact ⟨ad, cs, rfl, hr2⟩

theorem run_part (hE : EnvOK P E) {U : TypeId} {cs : List AV} {off : Nat} {v : AV} {vs : Array Value} (h : loadA E U cs off = some v) (hv : VRels μ Nm S w cs vs.toList) : ∃ x, (part U vs off).run P w = .ok x w ∧ VRel μ Nm S w v x := by
  unfold loadA at h
  split at h
  · rename_i t ht
    split at h
    · rename_i hl
      injection h with h; subst h
      rw [takeA_eq, dropA_eq] at hl ⊢
      have h1 := Nat.eq_of_beq_eq_true hl
      rw [lenA_eq] at h1
      have h2 : VRels μ Nm S w ((cs.drop off).take t.sz) ((vs.toList.drop off).take t.sz) := VRels_take _ (VRels_drop _ hv)
      have hT := hE.ty U t ht
      have h3 := VRels_len h2
      rw [h1] at h3
      have hp := hT.pos
      have hlen : off + t.sz ≤ vs.size := by simp at h3; omega
      refine ⟨wrapV (E.agg U) ((vs.toList.drop off).take t.sz), ?_, wrap_rel h2⟩
      unfold part
      rw [Sem.run_bind, run_isAgg hT w]
      cases hA : E.agg U with
      | true =>
        simp only [Result.andThen, if_true, Sem.run_bind, run_sizeOf' hT w, wrapV, Sem.run_pure]
        congr 2
        apply Array.ext'
        simp only [Array.toList_extract]
        rw [List.take_drop]
        simp [List.extract, List.take_drop, Nat.add_sub_cancel_left]
      | false =>
        have h4 := hT.one hA
        have h5 : off < vs.size := by omega
        simp [Result.andThen, wrapV, h4, h5, List.getD]
    · cases h
  · cases h

theorem field_ok (hE : EnvOK P E) {T U : TypeId} {x : Operand} {f o' : Nat} {cs : List AV} {v : AV} (ho : o.op = .field T x f) (hf : E.fld T f = some (o', U)) (hx : s.op x = .agg cs) (hl : loadA E U cs o' = some v) : OpOK P c o s b ⟨v, [], []⟩ := by
  refine OpOK.pure fun s' a w μ Nm hag hr => ?_
  have h1 := hr.op x
  rw [hag.ops x (by simp [Op.operands, ho]), hx] at h1
  simp only [VRel] at h1
  obtain ⟨vs, h2, h3⟩ := h1
  obtain ⟨fs, fd, g1, g2, g3, g4⟩ := hE.fld T f o' U hf
  obtain ⟨z, h4, h5⟩ := run_part hE hl h3
  refine ⟨z, by simp only [execOp, ho, h2]; exact run_v (by simp [Instr.field, run_underlying g1, g2, asAgg, g3, g4, Result.andThen, h4]), h5⟩

theorem index_ok (hE : EnvOK P E) {T U : TypeId} {x i : Operand} {n : Nat} {k : IntKind} {j : Int} {u : Ty} {cs : List AV} {v : AV} (ho : o.op = .index T x i) (ha : E.arr T = some (n, U)) (hu : E.ty U = some u) (hi : s.op i = .int k j) (hx : s.op x = .agg cs) (h0 : 0 ≤ j) (hj : j < (n : Int)) (hl : loadA E U cs (j.toNat * u.sz) = some v) : OpOK P c o s b ⟨v, [], []⟩ := by
  refine OpOK.pure fun s' a w μ Nm hag hr => ?_
  have h1 := hr.op x
  rw [hag.ops x (by simp [Op.operands, ho]), hx] at h1
  have h6 := hr.op i
  rw [hag.ops i (by simp [Op.operands, ho]), hi] at h6
  simp only [VRel] at h1 h6
  obtain ⟨vs, h2, h3⟩ := h1
  obtain ⟨z, h4, h5⟩ := run_part hE hl h3
  refine ⟨z, by simp only [execOp, ho, h2, h6]; exact run_v (by simp [Instr.index, asIntOf, run_underlying (hE.arr T n U ha), h0, hj, run_sizeOf' (hE.ty U u hu) w, Result.andThen, h4]), h5⟩

theorem run_indexRow (hE : EnvOK P E) {T e : TypeId} {t : Ty} {k : IntKind} {j : Int} {ad : Addr} {len cap : Nat} (hT : E.elem T = some e) (ht : E.ty e = some t) (h0 : 0 ≤ j) (hj : j < (len : Int)) : (Instr.indexAt T (.slice (some ad) len cap) (.int k j)).run P w = .ok (.pointer (some (ad.add (j.toNat * t.sz)))) w := by
  simp [Instr.indexAt, run_underlying (hE.elem T e hT), asIntOf, h0, hj, run_sizeOf' (hE.ty e t ht) w, Result.andThen]

theorem run_indexArr (hE : EnvOK P E) {T U : TypeId} {n : Nat} {u : Ty} {k : IntKind} {j : Int} {ad : Addr} (hT : E.arr T = some (n, U)) (ht : E.ty U = some u) (h0 : 0 ≤ j) (hj : j < (n : Int)) : (Instr.indexAt T (.pointer (some ad)) (.int k j)).run P w = .ok (.pointer (some (ad.add (j.toNat * u.sz)))) w := by
  simp [Instr.indexAt, run_underlying (hE.arr T n U hT), asIntOf, h0, hj, run_sizeOf' (hE.ty U u ht) w, Result.andThen, Instr.sureAddr]

theorem rowOf_own {m : Nat → Option Obj} {e : TypeId} {t : Ty} {n : Nat} {xs : List t.D} {ns : List Nat} (h : rowOf m e t (.own n) = some (xs, ns)) : ns = [n] ∧ ∃ f, m n = some (.row f e t xs) := by
  simp only [rowOf] at h
  split at h
  · rename_i f e' t' ys hn
    split at h
    · rename_i he
      have := Nat.eq_of_beq_eq_true he; subst this
      split at h
      · rename_i zs hc
        injection h with h; injection h with h1 h2
        subst h1
        obtain ⟨rfl, rfl⟩ := castL_eq hc
        exact ⟨h2.symm, f, hn⟩
      · cases h
    · cases h
  · cases h

/-- What is read and not the call's own to write: it stays. -/
theorem rowOf_still {m : Nat → Option Obj} (hm : ∀ n o, m n = some o → ORel c μ Nm S w n o) {e : TypeId} {t : Ty} {v : AV} {x : Value} {xs : List t.D} {ns : List Nat} (h : rowOf m e t v = some (xs, ns)) (hl : ∀ n, v = .own n → liveN m n = false) (hnv : ∀ n z l h, v ≠ .vw n z l h) (hv : VRel μ Nm S w v x) : Kd.V t.kd e w 0 S x xs := by
  cases v with
  | own n =>
    obtain ⟨_, f, hn⟩ := rowOf_own h
    have h1 := hl n rfl
    simp only [liveN, hn] at h1
    subst h1
    have h2 := hm n _ hn
    simp only [ORel] at h2
    simp only [VRel] at hv
    rw [hv.2.1]; exact h2
  | nil =>
    have h1 := rowOf_rel hm h hv
    simp only [rowOf] at h
    injection h with h; injection h with h2 h3; subst h3
    exact Kd.V_mono h1 (fun k hk => withB_nil hk)
  | ro e' t' ys =>
    have h1 := rowOf_rel hm h hv
    simp only [rowOf] at h
    split at h
    · split at h
      · injection h with h; injection h with h2 h3; subst h3
        exact Kd.V_mono h1 (fun k hk => withB_nil hk)
      · cases h
    · cases h
  | vw n z l hh => exact absurd rfl (hnv n z l hh)
  | rz z e' t' ys =>
    have h1 := rowOf_rel hm h hv
    simp only [rowOf] at h
    split at h
    · split at h
      · injection h with h; injection h with h2 h3; subst h3
        exact Kd.V_mono h1 (fun k hk => withB_nil hk)
      · cases h
    · cases h
  | _ => simp [rowOf] at h

theorem rowOf_vw {m : Nat → Option Obj} {e : TypeId} {t : Ty} {n z : Nat} {l h : Int} {xs : List t.D} {ns : List Nat} (hh : rowOf m e t (.vw n z l h) = some (xs, ns)) : ns = [n] ∧ ∃ f, ∃ ys : List t.D, m n = some (.row f e t ys) ∧ z = t.sz ∧ xs = (ys.take h.toNat).drop l.toNat := by
  simp only [rowOf] at hh
  split at hh
  · rename_i f e' t' ys hn
    split at hh
    · rename_i hb
      simp only [Bool.and_eq_true] at hb
      obtain ⟨he, hz⟩ := hb
      have := Nat.eq_of_beq_eq_true he; subst this
      split at hh
      · rename_i zs hc
        injection hh with hh; injection hh with q1 q2; subst q1; subst q2
        obtain ⟨rfl, rfl⟩ := castL_eq hc
        exact ⟨rfl, f, zs, hn, Nat.eq_of_beq_eq_true hz, rfl⟩
      · cases hh
    · cases hh
  · cases hh

theorem rowOf_agree {s' : St} {nm : List Nat} (hag : Agree o s s' nm) {e : TypeId} {t : Ty} {v : AV} {xs : List t.D} {ns : List Nat} (h : rowOf s.mem e t v = some (xs, ns)) (hn : ∀ n ∈ ns, n ∈ nm) : rowOf s'.mem e t v = some (xs, ns) := by
  cases v with
  | own n =>
    have h1 := (rowOf_own h).1
    rw [← h]
    simp only [rowOf]
    rw [hag.mem n (hn n (by rw [h1]; simp))]
  | vw n z l hh =>
    have h1 := rowOf_vw h
    rw [← h]
    simp only [rowOf]
    rw [hag.mem n (hn n (by rw [h1.1]; simp))]
  | _ => exact h

theorem index_own_ok (hE : EnvOK P E) {T e : TypeId} {t : Ty} {x i : Operand} {k : IntKind} {j : Int} {n : Nat} {xs : List t.D} {ns : List Nat} (ho : o.op = .indexAddr T x i) (hT : E.elem T = some e) (ht : E.ty e = some t) (hi : s.op i = .int k j) (hx : s.op x = .own n) (hrow : rowOf s.mem e t (s.op x) = some (xs, ns)) (hlive : liveN s.mem n = true) (h0 : 0 ≤ j) (hj : j < (xs.length : Int)) : OpOK P c o s b ⟨.elo n t.sz j 0, [], ns⟩ := by
  refine OpOK.pure fun s' a w μ Nm hag hr => ?_
  have h1 := hr.op x
  rw [hag.ops x (by simp [Op.operands, ho]), hx] at h1
  have h6 := hr.op i
  rw [hag.ops i (by simp [Op.operands, ho]), hi] at h6
  rw [hx] at hrow
  obtain ⟨hns, f, hn⟩ := rowOf_own hrow
  simp only [liveN, hn] at hlive
  subst hlive
  have h3 := hr.objs n _ (by rw [hag.mem n (by rw [hns]; simp)]; exact hn)
  simp only [ORel] at h3
  simp only [VRel] at h1 h6
  obtain ⟨g, cp, hv, _⟩ := Kd.N_form h3.1 (by omega)
  rw [← h1.2.1] at hv
  refine ⟨_, by simp only [execOp, ho, hv, h6]; exact run_v (run_indexRow hE hT ht h0 hj), ?_⟩
  rw [Addr.add_mid]
  simp only [VRel]
  exact ⟨h1.1, g, xs.length, cp, by rw [← h1.2.1]; exact hv, h0, hj, by simp⟩

theorem index_vw_ok (hE : EnvOK P E) {T e : TypeId} {t : Ty} {x i : Operand} {k : IntKind} {j l h : Int} {n z : Nat} {xs : List t.D} {ns : List Nat} {e0 : TypeId} {t0 : Ty} {ys : List t0.D} (ho : o.op = .indexAddr T x i) (hT : E.elem T = some e) (ht : E.ty e = some t) (hi : s.op i = .int k j) (hx : s.op x = .vw n z l h) (hrow : rowOf s.mem e t (s.op x) = some (xs, ns)) (hm0 : s.mem n = some (.row true e0 t0 ys)) (h0 : 0 ≤ j) (hj : j < (xs.length : Int)) : OpOK P c o s b ⟨.elo n t.sz (l + j) 0, [], [n]⟩ := by
  refine OpOK.pure fun s' a w μ Nm hag hr => ?_
  have h1 := hr.op x
  rw [hag.ops x (by simp [Op.operands, ho]), hx] at h1
  have h6 := hr.op i
  rw [hag.ops i (by simp [Op.operands, ho]), hi] at h6
  rw [hx] at hrow
  obtain ⟨hns, f, ys', hn, hz, hxs⟩ := rowOf_vw hrow
  have hf : f = true := by rw [hn] at hm0; injection hm0 with hm0; injection hm0
  subst hf
  have hxl0 : (xs.length : Int) ≤ ys'.length := by rw [hxs]; simp; omega
  have h3 := hr.objs n _ (by rw [hag.mem n (by simp)]; exact hn)
  simp only [ORel] at h3
  simp only [VRel] at h1 h6
  obtain ⟨g, cp, hv, _⟩ := Kd.N_form h3.1 (by omega)
  obtain ⟨hnm, hl0, hlh, A, len, cap, g1, g2, g3, g4⟩ := h1
  have hlc := (Kd.N_at (by rw [← hv]; exact h3.1)).2
  rw [hv] at g1
  injection g1 with q1 q2 q3
  subst q1; subst q2; subst q3
  have hxl : (xs.length : Int) = h - l := by rw [hxs]; simp; omega
  have hne : cp ≠ l.toNat := by omega
  rw [if_neg hne] at g4
  simp only [Option.map_some] at g4
  have hrun := run_indexRow (P := P) (w := w) hE hT ht (k := k) (ad := (⟨g, 0, none⟩ : Addr).add (l.toNat * z)) (len := h.toNat - l.toNat) (cap := cp - l.toNat) h0 (by omega)
  refine ⟨_, by simp only [execOp, ho, g4, h6]; exact run_v hrun, ?_⟩
  rw [add_add]
  simp only [VRel]
  refine ⟨hnm, g, ys'.length, cp, hv, by omega, by omega, ?_⟩
  rw [hz]
  have e1 : l.toNat * t.sz + j.toNat * t.sz = (l + j).toNat * t.sz := by
    rw [← Nat.add_mul]; congr 1; omega
  rw [e1, Addr.add_mid]
  simp

theorem index_ro_ok (hE : EnvOK P E) {T e : TypeId} {t : Ty} {x i : Operand} {k : IntKind} {j : Int} {xs : List t.D} {ns : List Nat} (ho : o.op = .indexAddr T x i) (hT : E.elem T = some e) (ht : E.ty e = some t) (hi : s.op i = .int k j) (hrow : rowOf s.mem e t (s.op x) = some (xs, ns)) (hlive : ∀ n, s.op x = .own n → liveN s.mem n = false) (hnv : ∀ n z l h, s.op x ≠ .vw n z l h) (h0 : 0 ≤ j) (hj : j < (xs.length : Int)) : OpOK P c o s b ⟨.elr t (xs.getD j.toNat t.z) 0, [], ns⟩ := by
  refine OpOK.pure fun s' a w μ Nm hag hr => ?_
  have h1 := hr.op x
  have hxe := hag.ops x (by simp [Op.operands, ho])
  rw [hxe] at h1
  have h6 := hr.op i
  rw [hag.ops i (by simp [Op.operands, ho]), hi] at h6
  have hV := rowOf_still hr.objs (rowOf_agree hag hrow (fun n hn => hn)) (fun n hn => by
    have h2 := hlive n hn
    rw [hn] at hrow
    have h3 := (rowOf_own hrow).1
    unfold liveN at h2 ⊢
    rw [hag.mem n (by rw [h3]; simp)]; exact h2) hnv h1
  simp only [VRel] at h6
  obtain ⟨A, cp, hv, hl, hF⟩ := hV
  obtain ⟨ad, cs, rfl, hcl, hfk, hc, hok⟩ := Kd.F_get hF t.z j h0 hj
  rw [kd_sz] at hcl hc hok
  refine ⟨_, by simp only [execOp, ho, hv, h6]; exact run_v (run_indexRow hE hT ht h0 hj), ?_⟩
  simp only [VRel]
  exact ⟨ad.add (j.toNat * t.sz), cs, by rw [add_add, Nat.add_zero], hfk, fun i u hu => by rw [add_add]; exact hc i u hu, fun h0 => by rw [add_blk]; exact hok h0⟩

theorem lenA_len : ∀ l : List AV, lenA l = l.length
  | [] => rfl
  | _ :: r => by simp only [lenA, List.length_cons]; rw [lenA_len r]
theorem selI_get {k : IntKind} : ∀ {l : List AV} {ns : List Int}, selI k l = some ns → ∀ i, i < l.length → l[i]? = some (.int k (ns.getD i 0))
  | [], _, _, i, hi => by simp at hi
  | v :: l, ns, h, i, hi => by
    cases v <;> simp only [selI] at h <;> try (cases h; done)
    split at h
    · rename_i l' hk hl
      injection h with h; subst h
      have := ikEq_eq hk; subst this
      cases i with
      | zero => rfl
      | succ i =>
        have := selI_get hl i (by simpa using hi)
        simpa using this
    · cases h
theorem selB_get : ∀ {l : List AV} {ns : List Bool}, selB l = some ns → ∀ i, i < l.length → l[i]? = some (.bool (ns.getD i false))
  | [], _, _, i, hi => by simp at hi
  | v :: l, ns, h, i, hi => by
    cases v <;> simp only [selB] at h <;> try (cases h; done)
    split at h
    · rename_i l' hl
      injection h with h; subst h
      cases i with
      | zero => rfl
      | succ i =>
        have := selB_get hl i (by simpa using hi)
        simpa using this
    · cases h
theorem one_of {off c i : Nat} {cs : List AV} {v : AV} (hl : (takeA c (dropA off cs)).length = c) (hi : i < c) (h : (takeA c (dropA off cs))[i]? = some v) : takeA 1 (dropA (off + i) cs) = [v] := by
  rw [takeA_eq, dropA_eq] at *
  rw [List.getElem?_take, if_pos hi, List.getElem?_drop] at h
  obtain ⟨hlt, hv⟩ := List.getElem?_eq_some_iff.1 h
  rw [List.drop_eq_getElem_cons hlt, hv]
  simp
theorem loadD_eq {T : TypeId} {cs : List AV} {off c : Nat} {j : Int} {v : AV} (h : loadD E T cs off c j = some v) (h0 : 0 ≤ j) (hj : j < (c : Int)) : loadA E T cs (off + j.toNat) = some v := by
  unfold loadD at h
  split at h
  · rename_i k hT ha hl
    have hl := Nat.eq_of_beq_eq_true hl
    rw [lenA_len] at hl
    split at h
    · rename_i ns hs
      injection h with h; subst h
      have h1 := one_of hl (i := j.toNat) (by omega) (selI_get hs j.toNat (by omega))
      simp only [loadA, hT, ha, Ty.sz, h1, lenA]
      rfl
    · cases h
  · rename_i hT ha hl
    have hl := Nat.eq_of_beq_eq_true hl
    rw [lenA_len] at hl
    split at h
    · rename_i ns hs
      injection h with h; subst h
      have h1 := one_of hl (i := j.toNat) (by omega) (selB_get hs j.toNat (by omega))
      simp only [loadA, hT, ha, Ty.sz, h1, lenA]
      rfl
    · cases h
  · cases h
theorem putI_get {k : IntKind} {j v : Int} : ∀ {l : List AV} {b : Nat} {l' : List AV}, putI k j v b l = some l' → (b : Int) ≤ j → j < (b : Int) + l.length → l' = l.take (j.toNat - b) ++ [.int k v] ++ l.drop (j.toNat - b + 1)
  | [], b, l', h, h0, hj => by simp at hj; omega
  | x :: l, b, l', h, h0, hj => by
    cases x <;> simp only [putI] at h <;> try (cases h; done)
    split at h
    · rename_i r hk hr
      injection h with h; subst h
      have := ikEq_eq hk; subst this
      by_cases e : j = (b : Int)
      · have hz : j.toNat - b = 0 := by omega
        rw [if_pos e, hz]
        have : ∀ {l : List AV} {b : Nat} {l' : List AV}, putI k j v b l = some l' → j < (b : Int) → l' = l := by
          intro l
          induction l with
          | nil => intro b l' h _; simp only [putI] at h; injection h with h; exact h.symm
          | cons x l ih =>
            intro b l' h hb
            cases x <;> simp only [putI] at h <;> try (cases h; done)
            split at h
            · rename_i r hk hr
              injection h with h; subst h
              have := ikEq_eq hk; subst this
              rw [ih hr (by omega), if_neg (by omega)]
            · cases h
        rw [this hr (by omega)]
        simp
      · have ih := putI_get hr (by omega) (by simp at hj; omega)
        obtain ⟨m, hm⟩ : ∃ m, j.toNat - b = m + 1 := ⟨j.toNat - b - 1, by omega⟩
        rw [if_neg e, ih, hm, show j.toNat - (b + 1) = m by omega]
        simp
    · cases h
theorem putB_get {j : Int} {v : Bool} : ∀ {l : List AV} {b : Nat} {l' : List AV}, putB j v b l = some l' → (b : Int) ≤ j → j < (b : Int) + l.length → l' = l.take (j.toNat - b) ++ [.bool v] ++ l.drop (j.toNat - b + 1)
  | [], b, l', h, h0, hj => by simp at hj; omega
  | x :: l, b, l', h, h0, hj => by
    cases x <;> simp only [putB] at h <;> try (cases h; done)
    split at h
    · rename_i r hr
      injection h with h; subst h
      by_cases e : j = (b : Int)
      · have hz : j.toNat - b = 0 := by omega
        rw [if_pos e, hz]
        have : ∀ {l : List AV} {b : Nat} {l' : List AV}, putB j v b l = some l' → j < (b : Int) → l' = l := by
          intro l
          induction l with
          | nil => intro b l' h _; simp only [putB] at h; injection h with h; exact h.symm
          | cons x l ih =>
            intro b l' h hb
            cases x <;> simp only [putB] at h <;> try (cases h; done)
            split at h
            · rename_i r hr
              injection h with h; subst h
              rw [ih hr (by omega), if_neg (by omega)]
            · cases h
        rw [this hr (by omega)]
        simp
      · have ih := putB_get hr (by omega) (by simp at hj; omega)
        obtain ⟨m, hm⟩ : ∃ m, j.toNat - b = m + 1 := ⟨j.toNat - b - 1, by omega⟩
        rw [if_neg e, ih, hm, show j.toNat - (b + 1) = m by omega]
        simp
    · cases h
theorem splice {off c i : Nat} {cs : List AV} {v : AV} (hl : (takeA c (dropA off cs)).length = c) (hi : i < c) : takeA off cs ++ ((takeA c (dropA off cs)).take i ++ [v] ++ (takeA c (dropA off cs)).drop (i + 1)) ++ dropA (off + c) cs = cs.take (off + i) ++ [v] ++ cs.drop (off + i + 1) := by
  rw [takeA_eq, dropA_eq, takeA_eq, dropA_eq] at *
  have h1 : List.take off cs ++ List.take i (List.take c (List.drop off cs)) = List.take (off + i) cs := by
    rw [List.take_take, Nat.min_eq_left (by omega), List.take_add]
  have h2 : List.drop (i + 1) (List.take c (List.drop off cs)) ++ List.drop (off + c) cs = List.drop (off + i + 1) cs := by
    rw [List.drop_take, List.drop_drop]
    have h3 : List.drop (off + c) cs = List.drop (c - (i + 1)) (List.drop (off + (i + 1)) cs) := by rw [List.drop_drop]; congr 1; omega
    rw [h3, List.take_append_drop, Nat.add_assoc]
  rw [← h1, ← h2]
  simp
theorem storeD_eq {T : TypeId} {cs cs' : List AV} {off c : Nat} {j : Int} {v : AV} (h : storeD E T cs off c j v = some cs') (h0 : 0 ≤ j) (hj : j < (c : Int)) : cs' = cs.take (off + j.toNat) ++ cellsA v ++ cs.drop (off + j.toNat + 1) ∧ (∃ u, E.ty T = some u ∧ u.sz = 1) ∧ (cellsA v).length = 1 ∧ onesA (cellsA v) = true ∧ defA v = true ∧ off + j.toNat + 1 ≤ cs.length := by
  have hlen : ∀ {m : Nat}, (takeA m (dropA off cs)).length = m → j < (m : Int) → off + j.toNat + 1 ≤ cs.length := fun {m} hl hj => by
    rw [takeA_eq, dropA_eq] at hl
    simp at hl; omega
  unfold storeD at h
  split at h
  · rename_i k k' n hT hl
    have hl := Nat.eq_of_beq_eq_true hl
    rw [lenA_len] at hl
    split at h
    · rename_i l hk hp
      injection h with h; subst h
      have := ikEq_eq hk; subst this
      have h1 := putI_get hp (by simpa using h0) (by omega)
      refine ⟨?_, ⟨_, hT, rfl⟩, rfl, rfl, rfl, hlen hl hj⟩
      rw [h1]
      simp only [Nat.sub_zero, cellsA]
      exact splice hl (by omega)
    · cases h
  · rename_i n hT hl
    have hl := Nat.eq_of_beq_eq_true hl
    rw [lenA_len] at hl
    split at h
    · rename_i l hp
      injection h with h; subst h
      have h1 := putB_get hp (by simpa using h0) (by omega)
      refine ⟨?_, ⟨_, hT, rfl⟩, rfl, rfl, rfl, hlen hl hj⟩
      rw [h1]
      simp only [Nat.sub_zero, cellsA]
      exact splice hl (by omega)
    · cases h
  · cases h

theorem dyn_bounds {s' : St} {a : Act} {w : World} {μ : Nat → Value} {Nm : Nat → Prop} {x : Operand} {p : AV} {c' : Nat} {j : Int} (hr : Rel c s' a w μ Nm) (hx : s'.op x = .dyn p c' j) : 0 ≤ j ∧ j < (c' : Int) := by
  have h1 := hr.op x
  rw [hx] at h1
  simp only [VRel] at h1
  exact h1.1
theorem load_dyn_ok (hE : EnvOK P E) {T : TypeId} {x : Operand} {p : AV} {c' : Nat} {j : Int} (ho : o.op = .load T x) (hx : s.op x = .dyn p c' j) :
    (∀ {n off : Nat} {U : TypeId} {cs : List AV} {v : AV}, p = .ptr n off → s.mem n = some (.box U cs) → loadD E T cs off c' j = some v → OpOK P c o s b ⟨v, [], [n]⟩) ∧
    (∀ {t : Ty} {y : t.D} {off : Nat} {v : AV}, p = .elr t y off → loadD E T (unpack t y) off c' j = some v → OpOK P c o s b ⟨v, [], []⟩) ∧
    (∀ {n z : Nat} {i : Int} {off : Nat} {f : Bool} {e : TypeId} {t : Ty} {xs : List t.D} {v : AV}, p = .elo n z i off → s.mem n = some (.row f e t xs) → z = t.sz → loadD E T (unpack t (xs.getD i.toNat t.z)) off c' j = some v → OpOK P c o s b ⟨v, [], [n]⟩) := by
  refine ⟨fun {n off U cs v} hp hm hl => ?_, fun {t y off v} hp hl => ?_, fun {n z i off f e t xs v} hp hm hz hl => ?_⟩ <;> subst hp <;> intro s' a w μ Nm next Q hag hr hf hd hn
  · obtain ⟨h0, hj⟩ := dyn_bounds hr (by rw [hag.ops x (by simp [Op.operands, ho]), hx])
    refine load_ptr_ok (b := b) (off := off + j.toNat) hE ho (fun h => ?_) hm (loadD_eq hl h0 hj) s' a w μ Nm next Q hag hr hf hd hn
    rw [hx] at h; simp only [VRel] at h ⊢; exact h.2
  · obtain ⟨h0, hj⟩ := dyn_bounds hr (by rw [hag.ops x (by simp [Op.operands, ho]), hx])
    refine load_elr_ok (b := b) (off := off + j.toNat) (t := t) (y := y) hE ho (fun h => ?_) (loadD_eq hl h0 hj) s' a w μ Nm next Q hag hr hf hd hn
    rw [hx] at h; simp only [VRel] at h ⊢; exact h.2
  · obtain ⟨h0, hj⟩ := dyn_bounds hr (by rw [hag.ops x (by simp [Op.operands, ho]), hx])
    refine load_elo_ok (b := b) (off := off + j.toNat) hE ho (fun h => ?_) hm hz (loadD_eq hl h0 hj) s' a w μ Nm next Q hag hr hf hd hn
    rw [hx] at h; simp only [VRel] at h ⊢; exact h.2

theorem index_dyn_ok (hE : EnvOK P E) {T U : TypeId} {x i : Operand} {n : Nat} {k : IntKind} {j : Int} {u : Ty} {cs : List AV} {v : AV} (ho : o.op = .index T x i) (ha : E.arr T = some (n, U)) (hu : E.ty U = some u) (h1 : u.sz = 1) (hi : s.op i = .int k j) (hx : s.op x = .agg cs) (h0 : 0 ≤ j) (hj : j < (n : Int)) (hl : loadD E U cs 0 n j = some v) : OpOK P c o s b ⟨v, [], []⟩ :=
  index_ok hE ho ha hu hi hx h0 hj (by have := loadD_eq hl h0 hj; rw [h1, Nat.mul_one]; rwa [Nat.zero_add] at this)

theorem index_arr_ok (hE : EnvOK P E) {T U : TypeId} {u : Ty} {x i : Operand} {k : IntKind} {j : Int} {n : Nat} {v : AV} (ho : o.op = .indexAddr T x i) (hT : E.arr T = some (n, U)) (hu : E.ty U = some u) (hi : s.op i = .int k j) (h0 : 0 ≤ j) (hj : j < (n : Int))
    (hx : (∃ m off, s.op x = .ptr m off ∧ v = .ptr m (off + j.toNat * u.sz)) ∨ (∃ t y off, s.op x = .elr t y off ∧ v = .elr t y (off + j.toNat * u.sz)) ∨ (∃ m z q off, s.op x = .elo m z q off ∧ v = .elo m z q (off + j.toNat * u.sz)) ∨ (u.sz = 1 ∧ ((∃ m off, s.op x = .ptr m off ∧ v = .dyn (.ptr m off) n j) ∨ (∃ t y off, s.op x = .elr t y off ∧ v = .dyn (.elr t y off) n j) ∨ (∃ m z q off, s.op x = .elo m z q off ∧ v = .dyn (.elo m z q off) n j)))) : OpOK P c o s b ⟨v, [], []⟩ := by
  refine OpOK.pure fun s' a w μ Nm hag hr => ?_
  have h1 := hr.op x
  rw [hag.ops x (by simp [Op.operands, ho])] at h1
  have h6 := hr.op i
  rw [hag.ops i (by simp [Op.operands, ho]), hi] at h6
  simp only [VRel] at h6
  rcases hx with ⟨m, off, hx, rfl⟩ | ⟨t, y, off, hx, rfl⟩ | ⟨m, z, q, off, hx, rfl⟩ | ⟨hu1, ⟨m, off, hx, rfl⟩ | ⟨t, y, off, hx, rfl⟩ | ⟨m, z, q, off, hx, rfl⟩⟩
  · rw [hx] at h1
    simp only [VRel] at h1
    obtain ⟨hn, g, hg, h2⟩ := h1
    refine ⟨_, by simp only [execOp, ho, h2, h6]; exact run_v (run_indexArr hE hT hu h0 hj), ?_⟩
    rw [Addr.add_mid]
    simp only [VRel]
    exact ⟨hn, g, hg, rfl⟩
  · rw [hx] at h1
    simp only [VRel] at h1
    obtain ⟨ad, cs, h2, hr2⟩ := h1
    refine ⟨_, by simp only [execOp, ho, h2, h6]; exact run_v (run_indexArr hE hT hu h0 hj), ?_⟩
    rw [add_add]
    simp only [VRel]
    exact ⟨ad, cs, rfl, hr2⟩
  · rw [hx] at h1
    simp only [VRel] at h1
    obtain ⟨hn, g, len, cap, hg, q0, qi, h2⟩ := h1
    refine ⟨_, by simp only [execOp, ho, h2, h6]; exact run_v (run_indexArr hE hT hu h0 hj), ?_⟩
    rw [Addr.add_mid]
    simp only [VRel]
    exact ⟨hn, g, len, cap, hg, q0, qi, by rw [Nat.add_assoc]⟩
  · rw [hx] at h1
    simp only [VRel] at h1
    obtain ⟨hn, g, hg, h2⟩ := h1
    refine ⟨_, by simp only [execOp, ho, h2, h6]; exact run_v (run_indexArr hE hT hu h0 hj), ?_⟩
    rw [Addr.add_mid, hu1, Nat.mul_one]
    simp only [VRel]
    exact ⟨⟨h0, hj⟩, hn, g, hg, rfl⟩
  · rw [hx] at h1
    simp only [VRel] at h1
    obtain ⟨ad, cs, h2, hr2⟩ := h1
    refine ⟨_, by simp only [execOp, ho, h2, h6]; exact run_v (run_indexArr hE hT hu h0 hj), ?_⟩
    rw [add_add, hu1, Nat.mul_one]
    simp only [VRel]
    exact ⟨⟨h0, hj⟩, ad, cs, rfl, hr2⟩
  · rw [hx] at h1
    simp only [VRel] at h1
    obtain ⟨hn, g, len, cap, hg, q0, qi, h2⟩ := h1
    refine ⟨_, by simp only [execOp, ho, h2, h6]; exact run_v (run_indexArr hE hT hu h0 hj), ?_⟩
    rw [Addr.add_mid, hu1, Nat.mul_one]
    simp only [VRel]
    exact ⟨⟨h0, hj⟩, hn, g, len, cap, hg, q0, qi, by rw [Nat.add_assoc]⟩
end
end Go.Proofs.Ytinopkpnlibopaa.Ab
