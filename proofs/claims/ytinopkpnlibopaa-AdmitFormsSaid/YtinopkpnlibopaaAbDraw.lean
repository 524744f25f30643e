import Derived.Test.YtinopkpnlibopaaAbSeq
/- The regions whose order is drawn. -/
set_option linter.unusedVariables false
set_option linter.unusedSimpArgs false
namespace Go.Proofs.Ytinopkpnlibopaa.Ab
open Go.RowKit

section
variable {P : Program} {E : Env} {c : Ctx} {R : Type} {r : R}

/-- What has been done, where D tells what of it. -/
def stD (s0 : St) (dst : Nat → Option Tmp) (ef : Nat → Eff) (D : Nat → Bool) : Nat → St
  | 0 => s0
  | i + 1 => match D i with | true => (stD s0 dst ef D i).app (dst i) (ef i) | false => stD s0 dst ef D i

section
variable {s0 : St} {dst : Nat → Option Tmp} {ef ef' : Nat → Eff} {D D' : Nat → Bool}

theorem app_sl (s : St) (d : Option Tmp) (e : Eff) (x : Nat) : (s.app d e).sl x = if d = some x then e.val else s.sl x := by
  cases d with
  | none => simp [St.app, St.put]
  | some d =>
    simp only [St.app, St.put, setS_get, Option.some.injEq]

theorem app_mem (s : St) (d : Option Tmp) (e : Eff) : (s.app d e).mem = updL s.mem e.upd := by cases d <;> rfl
theorem app_n (s : St) (d : Option Tmp) (e : Eff) : (s.app d e).n = s.n := by cases d <;> rfl

theorem app_np (s : St) (d : Option Tmp) (e : Eff) : (s.app d e).np = s.np := by cases d <;> rfl
theorem stD_np : ∀ i, (stD s0 dst ef D i).np = s0.np
  | 0 => rfl
  | i + 1 => by
    simp only [stD]
    split
    · rw [app_np, stD_np i]
    · exact stD_np i

theorem stD_n : ∀ i, (stD s0 dst ef D i).n = s0.n
  | 0 => rfl
  | i + 1 => by
    simp only [stD]
    split
    · rw [app_n, stD_n i]
    · exact stD_n i

theorem stD_ef : ∀ (i : Nat), (∀ j, j < i → ef j = ef' j) → (∀ j, j < i → D j = D' j) → stD s0 dst ef D i = stD s0 dst ef' D' i
  | 0, _, _ => rfl
  | i + 1, h, h' => by
    simp only [stD]
    rw [stD_ef i (fun j hj => h j (by omega)) (fun j hj => h' j (by omega)), h i (by omega), h' i (by omega)]

theorem sl_congr {x : Nat} : ∀ (i : Nat), (∀ j, j < i → dst j = some x → D j = D' j) → (stD s0 dst ef D i).sl x = (stD s0 dst ef D' i).sl x
  | 0, _ => rfl
  | i + 1, h => by
    have ih := sl_congr i (fun j hj => h j (by omega))
    by_cases hd : dst i = some x
    · simp only [stD, h i (by omega) hd]
      split
      · rw [app_sl, app_sl, if_pos hd, if_pos hd]
      · exact ih
    · simp only [stD]
      split <;> split
      · rw [app_sl, app_sl, if_neg hd, if_neg hd]; exact ih
      · rw [app_sl, if_neg hd]; exact ih
      · rw [app_sl, if_neg hd]; exact ih
      · exact ih

theorem mem_names {n : Nat} : ∀ {us : List (Nat × Option Obj)}, n ∉ namesOf us → ∀ p ∈ us, p.1 ≠ n
  | [], _, p, hp => by cases hp
  | (i, o) :: us, h, p, hp => by
    simp only [namesOf, List.mem_cons, not_or] at h
    rcases List.mem_cons.1 hp with rfl | hp
    · exact fun e => h.1 e.symm
    · exact mem_names h.2 p hp

theorem mem_congr {n : Nat} : ∀ (i : Nat), (∀ j, j < i → n ∈ namesOf (ef j).upd → D j = D' j) → (stD s0 dst ef D i).mem n = (stD s0 dst ef D' i).mem n
  | 0, _ => rfl
  | i + 1, h => by
    have ih := mem_congr i (fun j hj => h j (by omega))
    by_cases hd : n ∈ namesOf (ef i).upd
    · simp only [stD, h i (by omega) hd]
      split
      · rw [app_mem, app_mem]; exact updL_loc _ ih
      · exact ih
    · have hu := mem_names hd
      simp only [stD]
      split <;> split
      · rw [app_mem, app_mem, updL_none _ hu, updL_none _ hu]; exact ih
      · rw [app_mem, updL_none _ hu]; exact ih
      · rw [app_mem, updL_none _ hu]; exact ih
      · exact ih

theorem sl_stop {x i : Nat} : ∀ (m : Nat), i ≤ m → (∀ j, i ≤ j → j < m → dst j = some x → D j = false) → (stD s0 dst ef D m).sl x = (stD s0 dst ef D i).sl x
  | 0, h, _ => by rw [Nat.le_zero.1 h]
  | m + 1, h, hd => by
    by_cases e : i = m + 1
    · rw [e]
    · have ih := sl_stop m (by omega) (fun j h1 h2 => hd j h1 (by omega))
      simp only [stD]
      split
      · rename_i hD
        rw [app_sl, if_neg (fun h' => by rw [hd m (by omega) (by omega) h'] at hD; cases hD)]; exact ih
      · exact ih

theorem mem_stop {n i : Nat} : ∀ (m : Nat), i ≤ m → (∀ j, i ≤ j → j < m → n ∈ namesOf (ef j).upd → D j = false) → (stD s0 dst ef D m).mem n = (stD s0 dst ef D i).mem n
  | 0, h, _ => by rw [Nat.le_zero.1 h]
  | m + 1, h, hd => by
    by_cases e : i = m + 1
    · rw [e]
    · have ih := mem_stop m (by omega) (fun j h1 h2 => hd j h1 (by omega))
      simp only [stD]
      split
      · rename_i hD
        rw [app_mem, updL_none _ (mem_names (fun h' => by rw [hd m (by omega) (by omega) h'] at hD; cases hD))]; exact ih
      · exact ih
end

structure Same (s t : St) : Prop where
  sl : s.sl = t.sl
  mem : s.mem = t.mem
  n : s.n = t.n
  np : s.np = t.np

def opF (ops : Array Oper) (i : Nat) : Oper := ops.getD i default
theorem opF_some {ops : Array Oper} {i : Nat} {o : Oper} (h : ops[i]? = some o) : opF ops i = o := by simp [opF, Array.getD_eq_getD_getElem?, h]
theorem opF_get {ops : Array Oper} {i : Nat} (h : i < ops.size) : ops[i]? = some (opF ops i) := by simp [opF, h]

def dstF (ops : Array Oper) (i : Nat) : Option Tmp := (opF ops i).dst
def recF (ops : Array Oper) (ef : Nat → Eff) (i : Nat) : Rec := ⟨opF ops i, i, (ef i).nm, namesOf (ef i).upd⟩

theorem drawOps_runs (hE : EnvOK P E) {k : Nat} {ops : Array Oper} {κ : St → Option R} {s0 : St} : ∀ (l : List Oper) (i : Nat), ops.toList.drop i = l → ∀ (recs : List Rec) (s : St) (ef0 : Nat → Eff), drawOps E k ops.toList l i recs κ s = some r → Same s (stD s0 (dstF ops) ef0 (fun _ => true) i) → s.nxt = s0.nxt + 64 * i →
    ∃ ef : Nat → Eff, (∀ j, j < i → ef j = ef0 j) ∧ (∀ j, i ≤ j → j < i + l.length → StepOK P c ops (opF ops j) (stD s0 (dstF ops) ef (fun _ => true) j) (s0.nxt + 64 * j) (ef j) ∧ guardB (opF ops j) j = true) ∧
      allB ops.toList (recs ++ (List.range' i l.length).map (recF ops ef)) = true ∧ ∃ s', κ s' = some r ∧ Same s' (stD s0 (dstF ops) ef (fun _ => true) (i + l.length)) ∧ s'.nxt = s0.nxt + 64 * (i + l.length)
  | [], i, hi, recs, s, ef0, h, hs, hx => by
    simp only [drawOps] at h
    split at h
    · rename_i ha
      exact ⟨ef0, fun _ _ => rfl, fun j h1 h2 => by simp at h2; omega, by simpa using ha, s, h, by simpa using hs, by simpa using hx⟩
    · cases h
  | o :: l, i, hi, recs, s, ef0, h, hs, hx => by
    simp only [drawOps] at h
    split at h
    · rename_i hg
      obtain ⟨e, h1, h2⟩ := stepOp_ok (c := c) hE (splitG_ok h)
      split at h1
      · rename_i hf
        rw [frcN_eq, frcL_eq frcN_eq, frcL_eq frcN_eq, step_eq] at h1
        have hoi : ops[i]? = some o := by
          rw [← Array.getElem?_toList]
          have := congrArg (·[0]?) hi
          simpa using this
        have hdr : ops.toList.drop (i + 1) = l := by
          have := congrArg (·.drop 1) hi
          simpa [List.drop_drop] using this
        have hof := opF_some hoi
        have hst : stD s0 (dstF ops) (fun j => if j = i then e else ef0 j) (fun _ => true) i = stD s0 (dstF ops) ef0 (fun _ => true) i := stD_ef i (fun j hj => if_neg (by omega)) (fun _ _ => rfl)
        obtain ⟨ef, g1, g2, g3, s', g4, g5, g6⟩ := drawOps_runs (s0 := s0) hE l (i + 1) hdr (recs ++ [⟨o, i, e.nm, namesOf e.upd⟩]) { s.app o.dst e with nxt := s.nxt + 64 } (fun j => if j = i then e else ef0 j) h1 (by
          have hd : dstF ops i = o.dst := by simp [dstF, hof]
          refine ⟨?_, ?_, ?_, by show (s.app o.dst e).np = _; rw [app_np, stD_np, hs.np, stD_np]⟩
          · show (s.app o.dst e).sl = _
            simp only [stD]
            rw [hst, if_pos trivial, hd]
            funext x
            rw [app_sl, app_sl, hs.sl]
          · show (s.app o.dst e).mem = _
            simp only [stD]
            rw [hst, if_pos trivial, hd, app_mem, app_mem, hs.mem]
          · show (s.app o.dst e).n = _
            rw [app_n, stD_n, hs.n, stD_n]) (by show s.nxt + 64 = _; rw [hx]; omega)
        have hei : ef i = e := by rw [g1 i (by omega)]; simp
        have hsti : stD s0 (dstF ops) ef (fun _ => true) i = stD s0 (dstF ops) ef0 (fun _ => true) i := stD_ef i (fun j hj => by rw [g1 j (by omega)]; exact if_neg (by omega)) (fun _ _ => rfl)
        refine ⟨ef, fun j hj => by rw [g1 j (by omega)]; exact if_neg (by omega), fun j hj hj2 => ?_, ?_, s', g4, ?_, ?_⟩
        · by_cases e' : j = i
          · subst e'
            rw [hof, hei, hsti]
            refine ⟨?_, hg⟩
            have hh := h2 hf
            rw [hx] at hh
            intro s2 a w μ Nm next Q k1 k2 k3 k4 k5 k6
            exact hh s2 a w μ Nm next Q (fun t ht => by rw [k1 t ht, hs.sl]) (by rw [k2, hs.n]) (fun n hn => by rw [k3 n hn, hs.mem]) k4 k5 k6
          · exact g2 j (by omega) (by simp at hj2; omega)
        · have : recF ops ef i = ⟨o, i, e.nm, namesOf e.upd⟩ := by simp [recF, hof, hei]
          simp only [List.length_cons, List.range'_succ, List.map_cons]
          rw [this]
          simpa using g3
        · have : i + (o :: l).length = i + 1 + l.length := by simp; omega
          rw [this]; exact g5
        · rw [g6]; simp; omega
      · cases h1
    · cases h

theorem allB_pair {all : List Oper} : ∀ {l : List Rec}, allB all l = true → ∀ (i j : Nat) (x y : Rec), i < j → l[i]? = some x → l[j]? = some y → pairB all x y = true
  | [], _, _, _, _, _, _, h, _ => by simp at h
  | a :: l, h, 0, j, x, y, hij, hx, hy => by
    simp only [allB, Bool.and_eq_true, List.all_eq_true] at h
    simp at hx; subst hx
    obtain ⟨j', rfl⟩ : ∃ j', j = j' + 1 := ⟨j - 1, by omega⟩
    simp at hy
    exact h.1 y (List.mem_of_getElem? hy)
  | a :: l, h, i + 1, j, x, y, hij, hx, hy => by
    simp only [allB, Bool.and_eq_true] at h
    obtain ⟨j', rfl⟩ : ∃ j', j = j' + 1 := ⟨j - 1, by omega⟩
    simp at hx hy
    exact allB_pair h.2 i j' x y (by omega) hx hy

def Ord (ops : Array Oper) (i j : Nat) : Prop := (j < i ∧ reach ops.toList 2 (opF ops i) j = true) ∨ (i < j ∧ reach ops.toList 2 (opF ops j) i = true)

theorem ordB_iff {ops : Array Oper} {ef : Nat → Eff} {i j : Nat} : ordB ops.toList (recF ops ef i) (recF ops ef j) = true ↔ Ord ops i j := by
  simp only [ordB, recF, Ord, Bool.or_eq_true, Bool.and_eq_true, Nat.blt_eq]

theorem disj_false {l l' : List Nat} {n : Nat} (h : n ∈ l) (h' : n ∈ l') : disj l l' = false := by
  cases hd : disj l l' with
  | false => rfl
  | true => exact absurd h' (disj_iff hd n h)

structure Facts (ops : Array Oper) (ef : Nat → Eff) (i j : Nat) : Prop where
  dst : ∀ x, dstF ops i = some x → dstF ops j ≠ some x
  look : ∀ d, dstF ops j = some d → d ∈ lookT ops.toList (opF ops i) → Ord ops i j
  nm : ∀ n, n ∈ (ef i).nm → n ∈ namesOf (ef j).upd → Ord ops i j
  up : ∀ n, n ∈ namesOf (ef i).upd → n ∈ namesOf (ef j).upd → Ord ops i j

theorem Ord.symm {ops : Array Oper} {i j : Nat} (h : Ord ops i j) : Ord ops j i := h.elim .inr .inl

theorem pair_facts {ops : Array Oper} {ef : Nat → Eff} {i j : Nat} (h : pairB ops.toList (recF ops ef i) (recF ops ef j) = true) : Facts ops ef i j ∧ Facts ops ef j i := by
  simp only [pairB, Bool.and_eq_true, Bool.or_eq_true, Bool.not_eq_true'] at h
  obtain ⟨⟨⟨h1, h2⟩, h3⟩, h4⟩ := h
  have hdst : ∀ x, dstF ops i = some x → dstF ops j ≠ some x := by
    intro x hx hy
    simp only [dstB, recF] at h1
    simp only [dstF] at hx hy
    rw [hx, hy] at h1
    simp only [Bool.not_eq_true'] at h1
    exact Nat.ne_of_beq_eq_false h1 rfl
  have hit : ∀ a c d, dstF ops c = some d → d ∈ lookT ops.toList (opF ops a) → hitB ops.toList (opF ops a) (opF ops c) = true := by
    intro a c d hd hl
    simp only [hitB]
    simp only [dstF] at hd
    rw [hd]
    exact (memN_iff _ _).2 hl
  have h2' : ∀ d, dstF ops j = some d → d ∈ lookT ops.toList (opF ops i) → Ord ops i j := fun d hd hl => by
    rcases h2 with h2 | h2
    · have := hit i j d hd hl
      simp only [recF] at h2
      rw [h2] at this; cases this
    · exact ordB_iff.1 h2
  have h3' : ∀ d, dstF ops i = some d → d ∈ lookT ops.toList (opF ops j) → Ord ops j i := fun d hd hl => by
    rcases h3 with h3 | h3
    · have := hit j i d hd hl
      simp only [recF] at h3
      rw [h3] at this; cases this
    · exact ordB_iff.1 h3
  have h4' : ∀ n, (n ∈ (ef i).nm ∧ n ∈ namesOf (ef j).upd) ∨ (n ∈ (ef j).nm ∧ n ∈ namesOf (ef i).upd) ∨ (n ∈ namesOf (ef i).upd ∧ n ∈ namesOf (ef j).upd) → Ord ops i j := fun n hn => by
    rcases h4 with h4 | h4
    · simp only [recF] at h4
      rcases hn with hn | hn | hn
      · rw [disj_false hn.1 hn.2] at h4; cases h4.1.1
      · rw [disj_false hn.1 hn.2] at h4; cases h4.1.2
      · rw [disj_false hn.1 hn.2] at h4; cases h4.2
    · exact ordB_iff.1 h4
  exact ⟨⟨hdst, h2', fun n a b => h4' n (.inl ⟨a, b⟩), fun n a b => h4' n (.inr (.inr ⟨a, b⟩))⟩, ⟨fun x hx hy => hdst x hy hx, h3', fun n a b => (h4' n (.inr (.inl ⟨a, b⟩))).symm, fun n a b => (h4' n (.inr (.inr ⟨b, a⟩))).symm⟩⟩

theorem edge_mem {o : Oper} {j : Nat} (h : edge o j = true) : ∃ e ∈ o.after, e.on = j ∧ Region.binds .any e = true := by
  simp only [edge, List.any_eq_true, Bool.and_eq_true] at h
  obtain ⟨e, he, h1, h2⟩ := h
  exact ⟨e, by simpa using he, Nat.eq_of_beq_eq_true h1, h2⟩

theorem reach_listed {ops : Array Oper} {listed : Array Bool} (hdc : ∀ j, j < ops.size → listed.getD j false = true → ∀ e ∈ (opF ops j).after, Region.binds .any e = true → listed.getD e.on false = true) :
    ∀ (d : Nat) (o : Oper) (j : Nat), (∀ e ∈ o.after, Region.binds .any e = true → listed.getD e.on false = true) → reach ops.toList d o j = true → listed.getD j false = true
  | 0, o, j, ho, h => by
    obtain ⟨e, he, h4, h5⟩ := edge_mem h
    rw [← h4]; exact ho e he h5
  | d + 1, o, j, ho, h => by
    simp only [reach, Bool.or_eq_true] at h
    rcases h with h | h
    · obtain ⟨e, he, h4, h5⟩ := edge_mem h
      rw [← h4]; exact ho e he h5
    · simp only [List.any_eq_true, Bool.and_eq_true] at h
      obtain ⟨e, he, h1, h2⟩ := h
      have hl := ho e (by simpa using he) h1
      split at h2
      · rename_i om hom
        have hom' : ops[e.on]? = some om := by simpa using hom
        have hlt : e.on < ops.size := (Array.getElem?_eq_some_iff.1 hom').1
        have := opF_some hom'
        exact reach_listed hdc d om j (by rw [← this]; exact hdc e.on hlt hl) h2
      · cases h2

/-- In any order. -/
theorem draw_any {ops : Array Oper} {ef : Nat → Eff} {s0 : St} {Q : Exit → Act → World → Prop}
    (hstep : ∀ j, j < ops.size → StepOK P c ops (opF ops j) (stD s0 (dstF ops) ef (fun _ => true) j) (s0.nxt + 64 * j) (ef j) ∧ guardB (opF ops j) j = true)
    (hpair : ∀ i j, i < ops.size → j < ops.size → i ≠ j → Facts ops ef i j)
    (hQ : ∀ a w μ Nm, Rel c (stD s0 (dstF ops) ef (fun _ => true) ops.size) a w μ Nm → (∀ n, Nm n → n < s0.nxt + 64 * ops.size) → Q .normal a w) :
    ∀ (fuel : Nat) (listed : Array Bool) (a : Act) (w : World) (μ : Nat → Value) (Nm : Nat → Prop), listed.size = ops.size →
      (∀ j, j < ops.size → listed.getD j false = true → ∀ e ∈ (opF ops j).after, Region.binds .any e = true → listed.getD e.on false = true) →
      ((List.range ops.size).countP (fun j => !listed.getD j false) ≤ fuel) →
      Rel c (stD s0 (dstF ops) ef (fun j => listed.getD j false) ops.size) a w μ Nm →
      (∀ n, Nm n → n < s0.nxt ∨ ∃ j, j < ops.size ∧ listed.getD j false = true ∧ s0.nxt + 64 * j ≤ n ∧ n < s0.nxt + 64 * j + 64) →
      wpAny P .any ops Q fuel listed a w := by
  have hsw : ∀ (listed : Array Bool) (j : Nat), listed.size = ops.size → j < ops.size → listed.getD j true = listed.getD j false := by
    intro listed j hs hj
    simp [Array.getD_eq_getD_getElem?, hs, hj]
  have hdone : ∀ (listed : Array Bool) (a : Act) (w : World) (μ : Nat → Value) (Nm : Nat → Prop), listed.size = ops.size → (∀ j, j < ops.size → listed.getD j false = true) →
      Rel c (stD s0 (dstF ops) ef (fun j => listed.getD j false) ops.size) a w μ Nm → (∀ n, Nm n → n < s0.nxt ∨ ∃ j, j < ops.size ∧ listed.getD j false = true ∧ s0.nxt + 64 * j ≤ n ∧ n < s0.nxt + 64 * j + 64) → Q .normal a w := by
    intro listed a w μ Nm hs hall hr hN
    refine hQ a w μ Nm (by rw [← stD_ef (ef := ef) ops.size (fun _ _ => rfl) hall]; exact hr) (fun n hn => ?_)
    rcases hN n hn with h | ⟨j, h1, _, h3, h4⟩ <;> omega
  have hnil : ∀ (listed : Array Bool), listed.size = ops.size → Region.ready .any ops listed = [] → ∀ j, j < ops.size → listed.getD j false = true := by
    intro listed hs hr j
    induction j using Nat.strongRecOn with
    | _ j ih =>
      intro hj
      cases hl : listed.getD j false with
      | true => rfl
      | false =>
        have : j ∈ Region.ready .any ops listed := mem_ready.2 ⟨by rw [hsw listed j hs hj, hl], opF ops j, opF_get hj, fun e he hb => by
          have hg := (hstep j hj).2
          simp only [guardB, Bool.and_eq_true, List.all_eq_true, Bool.or_eq_true, Bool.not_eq_true', Nat.blt_eq] at hg
          have hlt := (hg.2 e (by simpa using he)).resolve_left (by rw [hb]; simp)
          exact ih e.on hlt (by omega)⟩
        rw [hr] at this; cases this
  intro fuel
  induction fuel with
  | zero =>
    intro listed a w μ Nm hs hdc hc hr hN
    have hall : ∀ j, j < ops.size → listed.getD j false = true := by
      intro j hj
      have h0 := Nat.le_zero.1 hc
      rw [List.countP_eq_zero] at h0
      have := h0 j (List.mem_range.2 hj)
      simpa using this
    refine ⟨?_, hdone listed a w μ Nm hs hall hr hN⟩
    cases hr' : Region.ready .any ops listed with
    | nil => rfl
    | cons i rest =>
      have : i ∈ Region.ready .any ops listed := by rw [hr']; exact List.mem_cons_self
      obtain ⟨h1, o, ho, _⟩ := mem_ready.1 this
      have hi : i < ops.size := (Array.getElem?_eq_some_iff.1 ho).1
      rw [hsw listed i hs hi, hall i hi] at h1
      cases h1
  | succ fuel ih =>
    intro listed a w μ Nm hs hdc hc hr hN
    refine ⟨fun hr' => hdone listed a w μ Nm hs (hnil listed hs hr') hr hN, fun i hi => ?_⟩
    obtain ⟨h1, o, ho, hedges⟩ := mem_ready.1 hi
    have hlt : i < ops.size := (Array.getElem?_eq_some_iff.1 ho).1
    have hof := opF_some ho
    subst hof
    rw [hsw listed i hs hlt] at h1
    -- what is ordered against i: done, or not yet
    have hord : ∀ j, j < ops.size → Ord ops i j → listed.getD j false = decide (j < i) := by
      intro j hj h
      rcases h with ⟨h2, h3⟩ | ⟨h2, h3⟩
      · rw [reach_listed hdc 2 _ j hedges h3]; simp [h2]
      · have : listed.getD j false = false := by
          cases hl : listed.getD j false with
          | false => rfl
          | true =>
            have := reach_listed hdc 2 _ i (hdc j hj hl) h3
            rw [h1] at this; cases this
        rw [this]; simp; omega
    have hbelow : stD s0 (dstF ops) ef (fun _ => true) i = stD s0 (dstF ops) ef (fun j => decide (j < i)) i := stD_ef i (fun _ _ => rfl) (fun j hj => by simp [hj])
    have hsl : ∀ t ∈ lookT ops.toList (opF ops i), (stD s0 (dstF ops) ef (fun j => listed.getD j false) ops.size).sl t = (stD s0 (dstF ops) ef (fun _ => true) i).sl t := by
      intro t ht
      rw [hbelow, ← sl_stop (x := t) ops.size (Nat.le_of_lt hlt) (fun j h2 _ _ => by simp; omega)]
      refine sl_congr ops.size (fun j hj hd => ?_)
      by_cases e : j = i
      · subst e; rw [h1]; simp
      · exact hord j hj ((hpair i j hlt hj (Ne.symm e)).look t hd ht)
    have hmem : ∀ n ∈ (ef i).nm, (stD s0 (dstF ops) ef (fun j => listed.getD j false) ops.size).mem n = (stD s0 (dstF ops) ef (fun _ => true) i).mem n := by
      intro n hn
      rw [hbelow, ← mem_stop (n := n) ops.size (Nat.le_of_lt hlt) (fun j h2 _ _ => by simp; omega)]
      refine mem_congr ops.size (fun j hj hd => ?_)
      by_cases e : j = i
      · subst e; rw [h1]; simp
      · exact hord j hj ((hpair i j hlt hj (Ne.symm e)).nm n hn hd)
    have hfresh : ∀ n, s0.nxt + 64 * i ≤ n → n < s0.nxt + 64 * i + 64 → ¬ Nm n := by
      intro n h2 h3 hn
      rcases hN n hn with h4 | ⟨j, h4, h5, h6, h7⟩
      · omega
      · have : j = i := by omega
        subst this
        rw [h1] at h5; cases h5
    have key := (hstep i hlt).1 (stD s0 (dstF ops) ef (fun j => listed.getD j false) ops.size) a w μ Nm (wpAny P .any ops Q fuel (listed.setIfInBounds i true)) Q hsl (by rw [stD_n, stD_n]) hmem hr hfresh (fun a' w' μ' Nm' hr' hN' => by
      have hset : ∀ j, (listed.setIfInBounds i true).getD j false = if j = i then true else listed.getD j false := by
        intro j
        by_cases e : j = i
        · subst e; simp [Array.getD_eq_getD_getElem?, hs, hlt]
        · rw [getD_set_ne false (Ne.symm e), if_neg e]
      refine ih (listed.setIfInBounds i true) a' w' μ' Nm' (by simp [hs]) (fun j hj hl e he hb => ?_) ?_ (hr'.congr (fun x => ?_) (fun n => ?_) ?_ (by rw [stD_np, app_np, stD_np])) (fun n hn => ?_)
      · rw [hset] at hl ⊢
        by_cases e' : j = i
        · subst e'
          have := hedges e he hb
          rw [this]; simp
        · rw [if_neg e'] at hl
          rw [hdc j hj hl e he hb]; simp
      · have hlt' : (List.range ops.size).countP (fun j => !(listed.setIfInBounds i true).getD j false) < (List.range ops.size).countP (fun j => !listed.getD j false) := by
          refine countP_lt (fun j hj => ?_) i (List.mem_range.2 hlt) (by rw [h1]; rfl) (by rw [hset]; simp)
          rw [hset] at hj
          by_cases e : j = i
          · rw [if_pos e] at hj; cases hj
          · rw [if_neg e] at hj; exact hj
        omega
      · by_cases hd : dstF ops i = some x
        · have h2 : (stD s0 (dstF ops) ef (fun j => (listed.setIfInBounds i true).getD j false) ops.size).sl x = (stD s0 (dstF ops) ef (fun j => (listed.setIfInBounds i true).getD j false) (i + 1)).sl x :=
            sl_stop ops.size hlt (fun j h2 h3 h4 => absurd h4 ((hpair i j hlt h3 (by omega)).dst x hd))
          rw [h2]
          simp only [stD]
          rw [hset i, if_pos rfl]
          simp only
          rw [app_sl, if_pos hd, app_sl, if_pos (by exact hd)]
        · rw [app_sl, if_neg (by exact hd)]
          exact sl_congr ops.size (fun j hj h2 => by
            rw [hset, if_neg (fun e => hd (by rw [← e]; exact h2))])
      · rw [app_mem]
        by_cases hu : n ∈ namesOf (ef i).upd
        · have hafter : ∀ j, i < j → j < ops.size → n ∈ namesOf (ef j).upd → listed.getD j false = false := fun j h2 h3 h4 => by
            rw [hord j h3 ((hpair i j hlt h3 (by omega)).up n hu h4)]; simp; omega
          have h2 : (stD s0 (dstF ops) ef (fun j => (listed.setIfInBounds i true).getD j false) ops.size).mem n = (stD s0 (dstF ops) ef (fun j => (listed.setIfInBounds i true).getD j false) (i + 1)).mem n :=
            mem_stop ops.size hlt (fun j h2 h3 h4 => by rw [hset, if_neg (by omega)]; exact hafter j (by omega) h3 h4)
          have h3 : (stD s0 (dstF ops) ef (fun j => listed.getD j false) ops.size).mem n = (stD s0 (dstF ops) ef (fun j => listed.getD j false) i).mem n :=
            mem_stop ops.size (Nat.le_of_lt hlt) (fun j h2 h3 h4 => by
              by_cases e : j = i
              · rw [e]; exact h1
              · exact hafter j (by omega) h3 h4)
          rw [h2]
          simp only [stD]
          rw [hset i, if_pos rfl]
          simp only
          rw [app_mem]
          refine updL_loc _ ?_
          rw [h3]
          exact mem_congr i (fun j hj _ => by rw [hset, if_neg (by omega)])
        · rw [updL_none _ (mem_names hu)]
          exact mem_congr ops.size (fun j hj h2 => by
            rw [hset, if_neg (fun e => hu (by rw [← e]; exact h2))])
      · rw [stD_n, app_n, stD_n]
      · rcases hN' n hn with h2 | h2
        · rcases hN n h2 with h3 | ⟨j, h3, h4, h5⟩
          · exact .inl h3
          · refine .inr ⟨j, h3, ?_, h5⟩
            rw [hset]; split
            · rfl
            · exact h4
        · exact .inr ⟨i, hlt, by rw [hset]; simp, h2⟩)
    unfold wpOp
    rw [ho]
    simp only
    by_cases hw : Region.wanted (opF ops i) (yielded ops a.tmps) = true
    · rw [if_pos hw] at key ⊢; exact .inl key
    · rw [if_neg hw] at key ⊢; exact key
where
  countP_lt {p q : Nat → Bool} (h : ∀ j, p j = true → q j = true) : ∀ {l : List Nat} (i : Nat), i ∈ l → q i = true → p i = false → l.countP p < l.countP q := by
    intro l
    induction l with
    | nil => intro i hi; cases hi
    | cons a l ih =>
      intro i hi hq hp
      have hle : l.countP p ≤ l.countP q := List.countP_mono_left (fun x _ hx => h x hx)
      simp only [List.countP_cons]
      rcases List.mem_cons.1 hi with rfl | hi
      · rw [hq, hp]; simp; omega
      · have := ih i hi hq hp
        by_cases hpa : p a = true
        · rw [hpa, h a hpa]; omega
        · have : p a = false := by simpa using hpa
          rw [this]; simp; omega

theorem drawOps_ok (hE : EnvOK P E) {k : Nat} {ops : Array Oper} {κ : St → Option R} {Q : Exit → Act → World → Prop} {s : St} (h : drawOps E k ops.toList ops.toList 0 [] κ s = some r) {a : Act} {w : World} {μ : Nat → Value} {Nm : Nat → Prop} (hr : Rel c s a w μ Nm) (hN : ∀ n, Nm n → n < s.nxt)
    (hQ : ∀ s' a' w' μ' Nm', κ s' = some r → s'.n = s.n → Rel c s' a' w' μ' Nm' → (∀ n, Nm' n → n < s'.nxt) → Q .normal a' w') : wpAny P .any ops Q ops.size (Array.replicate ops.size false) a w := by
  obtain ⟨ef, _, g2, g3, s', g4, g5, g6⟩ := drawOps_runs (c := c) (s0 := s) hE ops.toList 0 rfl [] s (fun _ => ⟨.undef, [], []⟩) h ⟨rfl, rfl, rfl, rfl⟩ rfl
  simp only [Array.length_toList, Nat.zero_add, List.nil_append] at g2 g3 g5 g6
  have hf : ∀ j, (Array.replicate ops.size false).getD j false = false := by
    intro j
    simp only [Array.getD_eq_getD_getElem?, Array.getElem?_replicate]
    split <;> rfl
  have hget : ∀ i, i < ops.size → ((List.range' 0 ops.size).map (recF ops ef))[i]? = some (recF ops ef i) := by
    intro i hi
    simp [List.getElem?_range', hi]
  refine draw_any (c := c) (ef := ef) (s0 := s) (fun j hj => g2 j (Nat.zero_le _) hj) (fun i j hi hj hij => ?_) (fun a' w' μ' Nm' hr' hN' => ?_) ops.size (Array.replicate ops.size false) a w μ Nm (by simp) (fun j hj hl => by rw [hf] at hl; cases hl) ?_ ?_ (fun n hn => .inl (hN n hn))
  · rcases Nat.lt_or_ge i j with h1 | h1
    · exact (pair_facts (allB_pair g3 i j _ _ h1 (hget i hi) (hget j hj))).1
    · exact (pair_facts (allB_pair g3 j i _ _ (by omega) (hget j hj) (hget i hi))).2
  · exact hQ s' a' w' μ' Nm' g4 (by rw [g5.n, stD_n]) (hr'.congr (fun x => by rw [g5.sl]) (fun n => by rw [g5.mem]) g5.n g5.np) (fun n hn => by rw [g6]; exact hN' n hn)
  · exact Nat.le_trans List.countP_le_length (by simp)
  · have : stD s (dstF ops) ef (fun j => (Array.replicate ops.size false).getD j false) ops.size = s := by
      have h1 : ∀ m, stD s (dstF ops) ef (fun _ => false) m = s := by
        intro m
        induction m with
        | zero => rfl
        | succ m ih => simp only [stD]; exact ih
      exact (stD_ef ops.size (fun _ _ => rfl) (fun j _ => hf j)).trans (h1 ops.size)
    rw [this]; exact hr
end
end Go.Proofs.Ytinopkpnlibopaa.Ab
