import Derived.Test.YtinopkpnlibopaaAbOps6
/- Struct literals, lengths, least and greatest, calls; and all operations together. -/
set_option linter.unusedVariables false
set_option linter.unusedSimpArgs false
namespace Go.Proofs.Ytinopkpnlibopaa.Ab
open Go.RowKit

section
variable {P : Program} {E : Env} {c : Ctx} {o : Oper} {s : St} {b : Nat} {R : Type} {κ : Eff → Option R} {r : R}

theorem fold_cells (off : Nat) (v : Array Value) (cs : Array Value) (hle : off + v.size ≤ cs.size) : (v.zipIdx.foldl (fun cs (x : Value × Nat) => cs.setIfInBounds (off + x.2) x.1) cs).toList = cs.toList.take off ++ v.toList ++ cs.toList.drop (off + v.size) := by
  have e : v.zipIdx.foldl (fun cs (x : Value × Nat) => cs.setIfInBounds (off + x.2) x.1) cs = (v.toList.zipIdx 0).foldl (fun cs (x : Value × Nat) => cs.setIfInBounds (off + x.2) x.1) cs := by
    rw [← Array.foldl_toList]; simp
  rw [e]
  obtain ⟨g1, g2⟩ := Great.foldl_set off v.toList 0 cs
  apply List.ext_getElem?
  intro k
  rw [Array.getElem?_toList, g2 k]
  simp only [Nat.add_zero, Array.length_toList]
  by_cases h1 : k < off
  · rw [if_neg (by omega), List.append_assoc, List.getElem?_append_left (by simp; omega), List.getElem?_take, if_pos h1, Array.getElem?_toList]
  · by_cases h2 : k < off + v.size
    · rw [if_pos (by omega), List.append_assoc, List.getElem?_append_right (by simp; omega), List.getElem?_append_left (by simp; omega)]
      simp
      congr 1
      omega
    · rw [if_neg (by omega), List.getElem?_append_right (by simp; omega)]
      simp
      congr 1
      omega

theorem fill_rel (hE : EnvOK P E) {μ : Nat → Value} {Nm S : Nat → Prop} {w : World} {T : TypeId} {place : Nat → Option (Nat × Nat)} (hpl : ∀ i off u, placeA E T i = some (off, u) → place i = some (off, u.sz)) : ∀ (ps : List (Nat × AV)) (vs : List (Nat × Value)) (cs cs' : List AV) (cells : Array Value),
    fillA E T cs ps = some cs' → ps.map (·.1) = vs.map (·.1) → VRels μ Nm S w (ps.map (·.2)) (vs.map (·.2)) → VRels μ Nm S w cs cells.toList → ∃ cells', Instr.fill place cells vs = some cells' ∧ VRels μ Nm S w cs' cells'.toList
  | [], [], cs, cs', cells, h, _, _, hc => by
    simp only [fillA] at h; injection h with h; subst h
    exact ⟨cells, rfl, hc⟩
  | [], _ :: _, _, _, _, _, h, _, _ => by simp at h
  | _ :: _, [], _, _, _, _, h, _, _ => by simp at h
  | (i, x) :: ps, (j, v) :: vs, cs, cs', cells, h, hij, hv, hc => by
    simp only [List.map_cons, List.cons.injEq] at hij
    obtain ⟨rfl, hij⟩ := hij
    simp only [List.map_cons, VRels] at hv
    simp only [fillA] at h
    split at h
    · rename_i off u hp
      split at h
      · rename_i hb
        simp only [Bool.and_eq_true] at hb
        obtain ⟨⟨hb1, hb2⟩, hdef⟩ := hb
        have hb1 := Nat.eq_of_beq_eq_true hb1
        have hb2 := Nat.le_of_ble_eq_true hb2
        rw [lenA_eq] at hb1 hb2
        rw [lenA_eq] at hb2
        have hx := cells_rel hdef hv.1
        have hxl := VRels_len hx
        have hcl := VRels_len hc
        rw [takeA_eq, dropA_eq, lenA_eq] at h
        simp only [Array.length_toList] at hxl hcl
        have hfit : off + v.cells.size ≤ cells.size := by omega
        obtain ⟨cells', g1, g2⟩ := fill_rel hE hpl ps vs _ cs' (v.cells.zipIdx.foldl (fun cs (x : Value × Nat) => cs.setIfInBounds (off + x.2) x.1) cells) h hij hv.2 (by
          rw [fold_cells off v.cells cells hfit, ← hxl]
          exact VRels_append (VRels_append (VRels_take _ hc) hx) (VRels_drop _ hc))
        refine ⟨cells', ?_, g2⟩
        unfold Instr.fill
        rw [hpl i off u hp]
        simp only
        rw [if_neg (by simp; omega)]
        exact g1
      · cases h
    · cases h

theorem build_run (hE : EnvOK P E) {T : TypeId} {t : Ty} {ps : Array (Nat × Operand)} {cs : List AV} (ho : o.op = .build T ps) (ht : E.ty T = some t) (hA : E.agg T = true) (hfl : fillA E T (zeroC t) (mapOpP s ps.toList) = some cs) {s' : St} {a : Act} {w : World} {μ : Nat → Value} {Nm : Nat → Prop} (hag : Agree o s s' []) (hr : Rel c s' a w μ Nm) : ∃ x, (execOp a.eval o).run P w = .ok (.value x) w ∧ VRel μ Nm (stab c μ s'.mem) w (.agg cs) x := by
  have hcong : mapOpP s' ps.toList = mapOpP s ps.toList := mapOpP_congr (fun p hp => hag.ops p.2 (by simp [Op.operands, ho]; exact ⟨p.1, by simpa using hp⟩))
  rw [← hcong] at hfl
  have hTy := hE.ty T t ht
  obtain ⟨ie, z, hie, hsz, _, hz, hzc⟩ := hTy.info
  have hparts : (ps.map fun (i, x) => (i, a.eval x)).toList = ps.toList.map fun p => (p.1, a.eval p.2) := by rw [Array.toList_map]
  have hf1 : (mapOpP s' ps.toList).map (·.1) = (ps.toList.map fun p => (p.1, a.eval p.2)).map (·.1) := by rw [mapOpP_fst]; simp
  have hf2 : VRels μ Nm (stab c μ s'.mem) w ((mapOpP s' ps.toList).map (·.2)) ((ps.toList.map fun p => (p.1, a.eval p.2)).map (·.2)) := by
    have := mapOpP_rel hr ps.toList
    simpa [Function.comp_def] using this
  have hz0 : VRels μ Nm (stab c μ s'.mem) w (zeroC t) z.cells.toList := by rw [hzc]; exact zero_rel t
  cases hr' : E.arr T with
  | none =>
    obtain ⟨fs, pl, hu, hpl, hplace⟩ := hE.build T t ht hA hr'
    obtain ⟨cells', g1, g2⟩ := fill_rel hE (T := T) (place := (pl[·]?)) (fun i off u hp => by
      unfold placeA at hp
      rw [hr'] at hp
      simp only at hp
      split at hp
      · rename_i off' U hf
        split at hp
        · rename_i u' hu'
          injection hp with hp; injection hp with h1 h2; subst h1; subst h2
          exact hplace i off' U u' hf hu'
        · cases hp
      · cases hp) _ _ _ _ _ hfl hf1 hf2 hz0
    refine ⟨.agg cells', ?_, by simp only [VRel]; exact ⟨cells', rfl, g2⟩⟩
    simp only [execOp, ho]
    refine run_v ?_
    unfold Instr.build
    rw [hparts]
    simp only [Sem.run_bind, zeroValue, typeInfo, program, Sem.run, hie, hz, Sem.run_pure, Result.andThen_ok, run_underlying hu, hpl, g1]
  | some nu =>
    obtain ⟨n, U⟩ := nu
    obtain ⟨u, hU⟩ := hE.arrT T n U hr'
    obtain ⟨cells', g1, g2⟩ := fill_rel hE (T := T) (place := fun i => some (i * u.sz, u.sz)) (fun i off u' hp => by
      unfold placeA at hp
      rw [hr'] at hp
      simp only [hU] at hp
      split at hp
      · rename_i u2 h1 h2
        injection h1 with h1; subst h1
        injection hp with hp; injection hp with h3 h4; subst h3; subst h4; rfl
      · cases hp) _ _ _ _ _ hfl hf1 hf2 hz0
    refine ⟨.agg cells', ?_, by simp only [VRel]; exact ⟨cells', rfl, g2⟩⟩
    simp only [execOp, ho]
    refine run_v ?_
    unfold Instr.build
    rw [hparts]
    simp only [Sem.run_bind, zeroValue, typeInfo, program, Sem.run, hie, hz, Sem.run_pure, Result.andThen_ok, run_underlying (hE.arr T n U hr'), run_sizeOf' (hE.ty U u hU) w, g1]

theorem build_ok (hE : EnvOK P E) {T : TypeId} {t : Ty} {ps : Array (Nat × Operand)} {cs : List AV} (ho : o.op = .build T ps) (ht : E.ty T = some t) (hA : E.agg T = true) (hfl : fillA E T (zeroC t) (mapOpP s ps.toList) = some cs) : OpOK P c o s b ⟨.agg cs, [], []⟩ := OpOK.pure fun s' a w μ Nm hag hr => build_run hE ho ht hA hfl hag hr

theorem build_z (hE : EnvOK P E) {T : TypeId} {t : Ty} {ps : Array (Nat × Operand)} {cs : List AV} (ho : o.op = .build T ps) (ht : E.ty T = some t) (hA : E.agg T = true) (hfl : fillA E T (zeroC t) (mapOpP s ps.toList) = some cs) {ts : List (Option (TypeId × Ty))} {cs' : List AV} {us : List (Nat × Option Obj)} {b' : Nat} (hz : ownZ ts cs b = (cs', us, b')) (hb' : b' ≤ b + 64) : OpOK P c o s b ⟨.agg cs', us, namesOf us⟩ := by
  intro s' a w μ Nm next Q hag hr hf hd hn
  obtain ⟨x, hrun, hx⟩ := build_run hE ho ht hA hfl ⟨hag.ops, hag.n, fun n hn => by cases hn⟩ hr
  simp only [VRel] at hx
  obtain ⟨vs, rfl, hvs⟩ := hx
  have h := ownZ_rel (c := c) ts cs vs.toList b hr hvs (fun n h1 h2 => hf n h1 (by rw [hz] at h2; simp only at h2; omega))
  rw [hz] at h
  obtain ⟨μ1, Nm1, g1, g2, g3, g4, g5, g6⟩ := h
  refine wp_value hrun ?_
  have h7 := g1.put o.dst hd (v := .agg cs') (x := .agg vs) (by simp only [VRel]; exact ⟨vs, rfl, g2⟩)
  refine hn _ _ μ1 Nm1 ?_ (fun n h => (g3 n h).imp id (fun e => by simp only at e; omega))
  cases hdst : o.dst with
  | none => rw [hdst] at h7; exact h7
  | some d => rw [hdst] at h7; exact h7

end
end Go.Proofs.Ytinopkpnlibopaa.Ab
