import Derived.Test.YtinopkpnlibopaaAbRel
/- The relation of states: how it is handed on. -/
set_option linter.unusedVariables false
set_option linter.unusedSimpArgs false
namespace Go.Proofs.Ytinopkpnlibopaa.Ab
open Go.RowKit

section
variable {μ μ' : Nat → Value} {Nm Nm' : Nat → Prop} {S S' : Nat → Prop} {w w' : World} {c : Ctx}

theorem own_blk {v : Value} {k : Nat} (h : v.ownBlock = some k) : blk v = some k := by
  unfold Value.ownBlock at h
  split at h
  · simpa [blk] using h
  · cases h

theorem ents_step (hw : ∀ k, S k → k < w.heap.size → w'.heap[k]? = w.heap[k]?) (hS : ∀ k, S k → k < w.heap.size → S' k) {ak av : Bool} {tk tv : Ty} : ∀ {es : List (tk.D × tv.D)} {l : List MapEntry}, ents S w ak tk av tv es l → ents S' w' ak tk av tv es l
  | [], [], _ => trivial
  | [], _ :: _, h => h
  | _ :: _, [], h => h
  | x :: xs, e :: l, h => by
    simp only [ents] at h ⊢
    obtain ⟨⟨h1, cs, h2, h3, h4⟩, h5⟩ := h
    exact ⟨⟨h1, cs, h2, h3, Kd.FK_mono (Kd.FK_step (Kd.FK_bound h4) (fun k hk hlt => hw k hk.1 hlt)) (fun k hk => hS k hk.1 hk.2)⟩, ents_step hw hS h5⟩

theorem ORel_step (hw : ∀ k, S k → k < w.heap.size → w'.heap[k]? = w.heap[k]?) (hS : ∀ k, S k → k < w.heap.size → S' k) (hμ : ∀ n, Nm n → μ' n = μ n) (hN : ∀ n, Nm n → Nm' n)
    (n : Nat) (o : Obj) (hn : Nm n) (hb : o.live = true → ∀ k, blk (μ n) = some k → w'.heap[k]? = w.heap[k]?) (h : ORel c μ Nm S w n o) : ORel c μ' Nm' S' w' n o := by
  cases o with
  | row f e t xs =>
    cases f with
    | true =>
      simp only [ORel] at h ⊢
      rw [hμ n hn]
      refine ⟨Kd.N_mono (Kd.N_step (Kd.N_bound h.1) (fun k hk hlt => ?_)) (fun k hk => ?_), h.2⟩
      · rcases hk.1 with h1 | h1
        · exact hw k h1 hlt
        · exact hb rfl k (own_blk h1.symm)
      · rcases hk.1 with h1 | h1
        · exact .inl (hS k h1 hk.2)
        · exact .inr h1
    | false =>
      simp only [ORel] at h ⊢
      rw [hμ n hn]
      exact Kd.V_mono (Kd.V_step (Kd.V_bound h) (fun k hk hlt => hw k hk.1 hlt)) (fun k hk => hS k hk.1 hk.2)
  | box T cs =>
    simp only [ORel] at h ⊢
    obtain ⟨g, vs, h1, h2, h3, h4⟩ := h
    refine ⟨g, vs, by rw [hμ n hn]; exact h1, h2, ?_, VRels_step hw hS hμ hN cs vs.toList h4⟩
    rw [hb rfl g (by rw [h1]; rfl)]
    exact h3
  | mp T ak tk av tv es =>
    simp only [ORel] at h ⊢
    obtain ⟨g, l, clk, h1, h2, h3, h4⟩ := h
    refine ⟨g, l, clk, by rw [hμ n hn]; exact h1, h2, ?_, ents_step hw hS h4⟩
    rw [hb rfl g (by rw [h1]; rfl)]
    exact h3
end

variable {c : Ctx}

theorem Rel.stab_lt {s : St} {a : Act} {w : World} {μ : Nat → Value} {Nm : Nat → Prop} (h : Rel c s a w μ Nm) {n : Nat} {o : Obj} (hn : s.mem n = some o) (hl : o.live = true) {k : Nat} (hk : blk (μ n) = some k) : (c.base ≤ k ∨ c.X k) ∧ k < w.heap.size ∧ ¬ stab c μ s.mem k := by
  have ho := h.objs n o hn
  have h1 : (c.base ≤ k ∨ c.X k) ∧ k < w.heap.size := by
    cases o with
    | row f e t xs =>
      cases f with
      | true =>
        simp only [ORel] at ho
        obtain ⟨A, cp, hv⟩ := Kd.N_slice ho.1
        have hob : (μ n).ownBlock = some k := by
          rw [hv] at hk ⊢
          cases A with
          | none => simp [blk] at hk
          | some a => simpa [blk, Value.ownBlock] using hk
        exact ⟨ho.2 k hob, Kd.N_lt ho.1 k hob⟩
      | false => cases hl
    | box T cs =>
      simp only [ORel] at ho
      obtain ⟨g, vs, h1, h2, h3, h4⟩ := ho
      rw [h1] at hk
      simp [blk] at hk
      subst hk
      exact ⟨h2, (Array.getElem?_eq_some_iff.1 h3).1⟩
    | mp T ak tk av tv es =>
      simp only [ORel] at ho
      obtain ⟨g, l, clk, h1, h2, h3, h4⟩ := ho
      rw [h1] at hk
      simp [blk] at hk
      subst hk
      exact ⟨h2, (Array.getElem?_eq_some_iff.1 h3).1⟩
  exact ⟨h1.1, h1.2, fun hs => hs.2 n o hn hl hk⟩

/-- The next state, in general. -/
theorem Rel.next {s s' : St} {a a' : Act} {w w' : World} {μ μ' : Nat → Value} {Nm Nm' : Nat → Prop} (h : Rel c s a w μ Nm)
    (hsize : a'.tmps.size = s'.n) (hdef : a'.defers = []) (hbelow : BelowX c.X c.base c.w0 w')
    (hw : ∀ k, stab c μ s.mem k → k < w.heap.size → w'.heap[k]? = w.heap[k]?)
    (hS : ∀ k, stab c μ s.mem k → k < w.heap.size → stab c μ' s'.mem k)
    (hμ : ∀ n, Nm n → μ' n = μ n) (hN : ∀ n, Nm n → Nm' n)
    (hmem : ∀ n o, s'.mem n = some o → (s.mem n = some o ∧ (o.live = true → ∀ k, blk (μ n) = some k → w'.heap[k]? = w.heap[k]?)) ∨ (Nm' n ∧ ORel c μ' Nm' (stab c μ' s'.mem) w' n o))
    (hdist : ∀ n n' o o', s'.mem n = some o → s'.mem n' = some o' → o.live = true → o'.live = true → n ≠ n' → ∀ k, blk (μ' n) = some k → blk (μ' n') ≠ some k)
    (hslots : ∀ x, (s'.sl x = s.sl x ∧ a'.tmps.getD x undef = a.tmps.getD x undef) ∨ VRel μ' Nm' (stab c μ' s'.mem) w' (s'.sl x) (a'.tmps.getD x undef)) (hnp : s'.np = s.np := by rfl) :
    Rel c s' a' w' μ' Nm' where
  size := hsize
  np := hnp.trans h.np
  pins := fun j hj => ⟨hN j (h.pins j hj).1, by rw [hμ j (h.pins j hj).1]; exact (h.pins j hj).2⟩
  defers := hdef
  below := hbelow
  names := fun n o hn => by
    rcases hmem n o hn with h1 | h1
    · exact hN n (h.names n o h1.1)
    · exact h1.1
  objs := fun n o hn => by
    rcases hmem n o hn with h1 | h1
    · exact ORel_step hw hS hμ hN n o (h.names n o h1.1) h1.2 (h.objs n o h1.1)
    · exact h1.2
  dist := hdist
  slots := fun x => by
    rcases hslots x with h1 | h1
    · rw [h1.1, h1.2]
      exact VRel_step hw hS hμ hN _ _ (h.slots x)
    · exact h1

/-- Another world, in which what stays has stayed, and what is the call's own. -/
theorem Rel.world {s : St} {a : Act} {w w' : World} {μ : Nat → Value} {Nm : Nat → Prop} (h : Rel c s a w μ Nm) (hb : Below w.heap.size w w') : Rel c s a w' μ Nm := by
  have hle : c.base ≤ w.heap.size := h.below.size
  refine h.next h.size h.defers (h.below.trans (Below.toX (hb.mono hle) c.X)) (fun k _ hlt => hb.block k hlt) (fun k hk _ => hk) (fun _ _ => rfl) (fun _ hn => hn) (fun n o hn => .inl ⟨hn, fun hl k hk => ?_⟩) h.dist (fun x => .inl ⟨rfl, rfl⟩)
  exact hb.block k (h.stab_lt hn hl hk).2.1

theorem Rel.drew {s : St} {a : Act} {w : World} {μ : Nat → Value} {Nm : Nat → Prop} (h : Rel c s a w μ Nm) : Rel c s a w.drew μ Nm := h.world ((Below.refl _ _).drew)

theorem getD_put {a : Act} {d : Tmp} {v : Value} (hd : d < a.tmps.size) (x : Nat) : (a.put (some d) v).tmps.getD x undef = if d = x then v else a.tmps.getD x undef := by
  simp only [Act.put, Array.getD_eq_getD_getElem?]
  by_cases h : d = x
  · subst h; simp [hd]
  · simp [h]

theorem setS_get (f : Nat → AV) (d : Nat) (v : AV) (x : Nat) : setS f d v x = if d = x then v else f x := by
  unfold setS
  cases h : Nat.beq x d with
  | true => have := Nat.eq_of_beq_eq_true h; simp [this]
  | false => have := Nat.ne_of_beq_eq_false h; simp [Ne.symm this]

theorem updL_nil (m : Nat → Option Obj) : updL m [] = m := rfl

theorem upd1_get (m : Nat → Option Obj) (n : Nat) (o : Option Obj) (x : Nat) : upd1 m n o x = if n = x then o else m x := by
  unfold upd1
  cases h : Nat.beq x n with
  | true => have := Nat.eq_of_beq_eq_true h; simp [this]
  | false => have := Nat.ne_of_beq_eq_false h; simp [Ne.symm this]

/-- A value into a slot. -/
theorem Rel.put {s : St} {a : Act} {w : World} {μ : Nat → Value} {Nm : Nat → Prop} (h : Rel c s a w μ Nm) (d : Option Tmp) (hd : ∀ t, d = some t → t < s.n) {v : AV} {x : Value} (hv : VRel μ Nm (stab c μ s.mem) w v x) :
    Rel c (s.put d v) (a.put d x) w μ Nm := by
  cases d with
  | none => exact h
  | some d =>
    have hlt : d < a.tmps.size := by rw [h.size]; exact hd d rfl
    refine h.next (by simp [Act.put, St.put, h.size]) (by simpa [Act.put] using h.defers) h.below (fun _ _ _ => rfl) (fun _ hk _ => hk) (fun _ _ => rfl) (fun _ hn => hn) (fun n o hn => .inl ⟨hn, fun _ _ _ => rfl⟩) h.dist (fun y => ?_)
    simp only [St.put]
    rw [getD_put hlt, setS_get]
    by_cases hy : d = y
    · right; simp only [hy, if_true]; exact hv
    · left; simp only [hy, if_false]; exact ⟨trivial, trivial⟩

theorem VRels_get {μ : Nat → Value} {Nm S : Nat → Prop} {w : World} : ∀ {cs : List AV} {vs : List Value}, VRels μ Nm S w cs vs → ∀ i, VRel μ Nm S w (nthA cs i) (vs.getD i undef)
  | [], [], _, i => by simp [nthA, VRel]
  | [], _ :: _, h, _ => by simp only [VRels] at h
  | _ :: _, [], h, _ => by simp only [VRels] at h
  | c :: cs, v :: vs, h, 0 => by simp only [VRels] at h; simpa [nthA] using h.1
  | c :: cs, v :: vs, h, i + 1 => by simp only [VRels] at h; simpa [nthA] using VRels_get h.2 i

theorem VRels_len {μ : Nat → Value} {Nm S : Nat → Prop} {w : World} : ∀ {cs : List AV} {vs : List Value}, VRels μ Nm S w cs vs → cs.length = vs.length
  | [], [], _ => rfl
  | [], _ :: _, h => by simp only [VRels] at h
  | _ :: _, [], h => by simp only [VRels] at h
  | c :: cs, v :: vs, h => by simp only [VRels] at h; simp [VRels_len h.2]

theorem VRels_append {μ : Nat → Value} {Nm S : Nat → Prop} {w : World} : ∀ {cs ds : List AV} {vs us : List Value}, VRels μ Nm S w cs vs → VRels μ Nm S w ds us → VRels μ Nm S w (cs ++ ds) (vs ++ us)
  | [], _, [], _, _, h => h
  | [], _, _ :: _, _, h, _ => by simp only [VRels] at h
  | _ :: _, _, [], _, h, _ => by simp only [VRels] at h
  | c :: cs, _, v :: vs, _, h, h' => by simp only [VRels, List.cons_append] at h ⊢; exact ⟨h.1, VRels_append h.2 h'⟩

theorem lenA_eq : ∀ l : List AV, lenA l = l.length
  | [] => rfl
  | _ :: r => by simp [lenA, lenA_eq r]
theorem takeA_eq : ∀ (n : Nat) (l : List AV), takeA n l = l.take n
  | 0, _ => by simp [takeA]
  | _ + 1, [] => by simp [takeA]
  | n + 1, v :: r => by simp [takeA, takeA_eq n r]
theorem dropA_eq : ∀ (n : Nat) (l : List AV), dropA n l = l.drop n
  | 0, _ => by simp [dropA]
  | _ + 1, [] => by simp [dropA]
  | n + 1, v :: r => by simp [dropA, dropA_eq n r]

theorem VRels_take {μ : Nat → Value} {Nm S : Nat → Prop} {w : World} : ∀ {cs : List AV} {vs : List Value} (n : Nat), VRels μ Nm S w cs vs → VRels μ Nm S w (cs.take n) (vs.take n)
  | [], [], n, _ => by simp [VRels]
  | [], _ :: _, _, h => by simp only [VRels] at h
  | _ :: _, [], _, h => by simp only [VRels] at h
  | _ :: _, _ :: _, 0, _ => by simp [VRels]
  | c :: cs, v :: vs, n + 1, h => by simp only [VRels, List.take_succ_cons] at h ⊢; exact ⟨h.1, VRels_take n h.2⟩
theorem VRels_drop {μ : Nat → Value} {Nm S : Nat → Prop} {w : World} : ∀ {cs : List AV} {vs : List Value} (n : Nat), VRels μ Nm S w cs vs → VRels μ Nm S w (cs.drop n) (vs.drop n)
  | [], [], n, _ => by simp [VRels]
  | [], _ :: _, _, h => by simp only [VRels] at h
  | _ :: _, [], _, h => by simp only [VRels] at h
  | _ :: _, _ :: _, 0, h => by simpa using h
  | c :: cs, v :: vs, n + 1, h => by simp only [VRels, List.drop_succ_cons] at h ⊢; exact VRels_drop n h.2

/-- What an operand is. -/
theorem const_rel {μ : Nat → Value} {Nm S : Nat → Prop} {w : World} (v : Value) : VRel μ Nm S w (ofConst v) v := by
  unfold ofConst
  split <;> simp [VRel]

theorem Rel.op {s : St} {a : Act} {w : World} {μ : Nat → Value} {Nm : Nat → Prop} (h : Rel c s a w μ Nm) (x : Operand) : VRel μ Nm (stab c μ s.mem) w (s.op x) (a.eval x) := by
  cases x with
  | tmp t => simp only [St.op, Act.eval]; exact h.slots t
  | const v => simp only [St.op, Act.eval]; exact const_rel v
  | global g => simp only [St.op, VRel]
  | func f => simp only [St.op, Act.eval, VRel]; exact ⟨#[], rfl, by simp [VRels]⟩

theorem Rel.ops {s : St} {a : Act} {w : World} {μ : Nat → Value} {Nm : Nat → Prop} (h : Rel c s a w μ Nm) : ∀ l : List Operand, VRels μ Nm (stab c μ s.mem) w (mapOp s l) (l.map a.eval)
  | [] => by simp [mapOp, VRels]
  | x :: r => by simp only [mapOp, List.map_cons, VRels]; exact ⟨h.op x, h.ops r⟩
end Go.Proofs.Ytinopkpnlibopaa.Ab
