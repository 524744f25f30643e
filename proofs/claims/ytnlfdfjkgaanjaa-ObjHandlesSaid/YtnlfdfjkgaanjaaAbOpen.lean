import Derived.Test.YtnlfdfjkgaanjaaAbRow
/- What comes in, read as data: the list, the numbers, the structs of a law's arguments. -/
set_option linter.unusedVariables false
set_option linter.unusedSimpArgs false
namespace Go.Proofs.Ytnlfdfjkgaanjaa.Ab
open Go.ChangeShapes Go.WideShapes Go.ChangeAt Go.RowKit Go.Proofs.YtnlfdfjkgaanjaaW.PrintWords

/-- Numbers are of their kinds, lists are not beyond what there is. -/
def Ty.fine : (t : Ty) → t.D → Prop
  | .unit, _ => True
  | .int k, n => (Lit.int k n).wf = true
  | .bool, _ => True
  | .str, _ => True
  | .sl _ t, xs => xs.length ≤ maxLen ∧ ∀ x ∈ xs, t.fine x
  | .pair a b, p => a.fine p.1 ∧ b.fine p.2

def opFs (P : Program) (chk : TypeId → Ty → Bool) : List Field → Nat → Ty → Bool
  | [], _, _ => false
  | f :: r, off, t => match r with
    | [] => Nat.beq f.offset off && (Nat.beq (P.cellsOf f.type) t.sz && chk f.type t)
    | _ :: _ => (match t with
      | .pair a b => (Nat.beq f.offset off && (Nat.beq (P.cellsOf f.type) a.sz && chk f.type a)) && opFs P chk r (off + a.sz) b
      | _ => false)
def opAr (chk : Ty → Bool) (z : Nat) : Nat → Ty → Bool
  | 0, _ => false
  | n + 1, t => match n with
    | 0 => Nat.beq z t.sz && chk t
    | _ + 1 => (match t with
      | .pair a b => (Nat.beq z a.sz && chk a) && opAr chk z n b
      | _ => false)
/-- Is a type what it is told as? -/
def opChk (P : Program) : Nat → TypeId → Ty → Bool
  | 0, _, _ => false
  | d + 1, T, t => match P.underlying T with
    | some (.int k) => (match t with | .int k' => ikEq k k' | _ => false)
    | some .bool => (match t with | .bool => true | _ => false)
    | some (.slice e) => (match t with | .sl e' u => Nat.beq e e' && (Nat.beq (P.cellsOf e) u.sz && opChk P d e u) | _ => false)
    | some (.struct fs) => Nat.beq (P.cellsOf T) t.sz && opFs P (opChk P d) fs.toList 0 t
    | some (.array n e) => Nat.beq (P.cellsOf T) t.sz && opAr (opChk P d e) (P.cellsOf e) n t
    | _ => false

section
variable {H : Type} {enc : TypeId × Value → H} {P : Program} {W : World} {base : Nat} {sp : Nat → Bool} {held : Bool}

def Opn (W : World) (t : Ty) (cs : List Value) : Prop := ∃ x : t.D, t.fine x ∧ ∀ W' : World, (∀ k, k < W.heap.size → W'.heap[k]? = W.heap[k]?) → t.kd.K W' x cs

theorem opn_pair {a b : Ty} {cs : List Value} {off : Nat} (h1 : Opn W a ((cs.drop off).take a.sz)) (h2 : Opn W b ((cs.drop (off + a.sz)).take b.sz)) : Opn W (.pair a b) ((cs.drop off).take (Ty.pair a b).sz) := by
  obtain ⟨x, hx, kx⟩ := h1
  obtain ⟨y, hy, ky⟩ := h2
  refine ⟨(x, y), ⟨hx, hy⟩, fun W' hW => ⟨_, _, ?_, kx W' hW, ky W' hW⟩⟩
  simp only [Ty.sz]
  rw [List.take_add, List.drop_drop]

theorem opFs_ok {chk : TypeId → Ty → Bool} {n : Nat} {cs : List Value} (ih : ∀ T t, chk T t = true → ∀ cs y, DataW.trod enc P W base sp held n T cs = some y → Opn W t cs) : ∀ (fs : List Field) (off : Nat) (t : Ty), opFs P chk fs off t = true →
    (∀ f ∈ fs, ∃ y, DataW.trod enc P W base sp held n f.type ((cs.drop f.offset).take (P.cellsOf f.type)) = some y) → Opn W t ((cs.drop off).take t.sz)
  | [], off, t, h, _ => by cases h
  | [f], off, t, h, hf => by
    simp only [opFs, Bool.and_eq_true] at h
    obtain ⟨h1, h2, h3⟩ := h
    obtain ⟨y, hy⟩ := hf f List.mem_cons_self
    rw [Nat.eq_of_beq_eq_true h1, Nat.eq_of_beq_eq_true h2] at hy
    exact ih _ _ h3 _ _ hy
  | f :: g :: fs, off, t, h, hf => by
    cases t with
    | pair a b =>
      simp only [opFs] at h
      rw [Bool.and_eq_true, Bool.and_eq_true, Bool.and_eq_true] at h
      obtain ⟨⟨h1, h2, h3⟩, h4⟩ := h
      obtain ⟨y, hy⟩ := hf f List.mem_cons_self
      rw [Nat.eq_of_beq_eq_true h1, Nat.eq_of_beq_eq_true h2] at hy
      exact opn_pair (ih _ _ h3 _ _ hy) (opFs_ok ih (g :: fs) (off + a.sz) b h4 (fun f' hf' => hf f' (List.mem_cons_of_mem _ hf')))
    | _ => cases h

theorem opAr_ok {chk : Ty → Bool} {n z : Nat} {e : TypeId} {cs : List Value} (ih : ∀ t, chk t = true → ∀ cs y, DataW.trod enc P W base sp held n e cs = some y → Opn W t cs) : ∀ (m i : Nat) (t : Ty), opAr chk z m t = true →
    (∀ j, i ≤ j → j < i + m → ∃ y, DataW.trod enc P W base sp held n e ((cs.drop (j * z)).take z) = some y) → Opn W t ((cs.drop (i * z)).take t.sz)
  | 0, i, t, h, _ => by cases h
  | 1, i, t, h, hf => by
    simp only [opAr, Bool.and_eq_true] at h
    obtain ⟨h1, h2⟩ := h
    obtain ⟨y, hy⟩ := hf i (Nat.le_refl _) (by omega)
    rw [← Nat.eq_of_beq_eq_true h1]
    exact ih _ h2 _ _ hy
  | m + 2, i, t, h, hf => by
    cases t with
    | pair a b =>
      simp only [opAr] at h
      rw [Bool.and_eq_true, Bool.and_eq_true] at h
      obtain ⟨⟨h1, h2⟩, h3⟩ := h
      have h1 := Nat.eq_of_beq_eq_true h1
      obtain ⟨y, hy⟩ := hf i (Nat.le_refl _) (by omega)
      have r := opAr_ok ih (m + 1) (i + 1) b h3 (fun j hj hj2 => hf j (by omega) (by omega))
      refine opn_pair (by rw [← h1]; exact ih _ h2 _ _ hy) ?_
      rw [show i * z + a.sz = (i + 1) * z by rw [← h1, Nat.add_mul, Nat.one_mul]]
      exact r
    | _ => cases h

theorem open_K : ∀ (d : Nat) (T : TypeId) (t : Ty), opChk P d T t = true → ∀ (fuel : Nat) (cs : List Value) (y : DataW H × List MemPlace), DataW.trod enc P W base sp held fuel T cs = some y → Opn W t cs
  | 0, _, _, h => by cases h
  | d + 1, T, t, h => by
    intro fuel cs y hy
    simp only [opChk] at h
    split at h
    · rename_i k hu
      split at h
      · rename_i k'
        have := ikEq_eq h; subst this
        obtain ⟨n, rfl, _, hw⟩ := DataW.trod_int hu hy
        exact ⟨n, hw, fun W' _ => rfl⟩
      · cases h
    · rename_i hu
      split at h
      · obtain ⟨b, rfl, _⟩ := DataW.trod_bool hu hy
        exact ⟨b, trivial, fun W' _ => rfl⟩
      · cases h
    · rename_i e hu
      split at h
      · rename_i e' u
        simp only [Bool.and_eq_true] at h
        obtain ⟨h1, h2, h3⟩ := h
        have := Nat.eq_of_beq_eq_true h1; subst this
        have hz := Nat.eq_of_beq_eq_true h2
        rcases DataW.trod_slice hu hy with ⟨rfl, _⟩ | ⟨a, len, cap, elems, rest, n, _, rfl, _, hb, hl, hm, hlen, hel, _, _⟩
        · exact ⟨[], ⟨Nat.zero_le _, fun x hx => by cases hx⟩, fun W' _ => ⟨none, 0, rfl, Nat.le_refl _, Kd.C_nil _ _⟩⟩
        · have each : ∀ i, i < len → ∃ cs', W.cells? base (a.add (i * u.sz)) u.sz = some cs' ∧ Opn W u cs' := fun i hi => by
            have h4 := hel i hi
            obtain ⟨v, hv⟩ : ∃ v, elems[i]? = some v := ⟨_, List.getElem?_eq_getElem (by omega)⟩
            rw [hv, hz, Option.bind_eq_some_iff] at h4
            obtain ⟨cs', h5, h6⟩ := h4
            exact ⟨cs', h5, open_K d e u h3 _ _ _ h6⟩
          let f : Nat → u.D := fun i => if hi : i < len then Classical.choose (Classical.choose_spec (each i hi)).2 else u.z
          have hf : ∀ i (hi : i < len), u.fine (f i) ∧ ∀ W' : World, (∀ k, k < W.heap.size → W'.heap[k]? = W.heap[k]?) → u.kd.K W' (f i) (Classical.choose (each i hi)) := fun i hi => by
            have := Classical.choose_spec (Classical.choose_spec (each i hi)).2
            simp only [f, hi, dif_pos]
            exact this
          have hxl : ((List.range len).map f).length = len := by simp
          refine ⟨(List.range len).map f, ⟨by rw [hxl]; omega, fun x hx => ?_⟩, fun W' hW => ⟨some a, cap, by rw [hxl], by rw [hxl]; exact hl, ?_⟩⟩
          · obtain ⟨i, hi, rfl⟩ := List.mem_map.1 hx
            exact (hf i (List.mem_range.1 hi)).1
          · rw [hxl]
            refine ⟨hxl, by unfold maxLen at hm; omega, fun _ => ⟨a, rfl, fun j p hp => ?_⟩⟩
            have hj : j < len := by have := (List.getElem?_eq_some_iff.1 hp).1; simpa using this
            have hp' : p = f j := by
              rw [List.getElem?_map, List.getElem?_range hj] at hp
              simpa using hp.symm
            subst hp'
            obtain ⟨h5, h6⟩ := Classical.choose_spec (each j hj)
            obtain ⟨_, h7, h8⟩ := World.cells?_some h5
            refine ⟨Classical.choose (each j hj), by rw [h7, kd_sz], (hf j hj).2 W' hW, fun i v hv => ?_⟩
            have hi : i < u.sz := by have := (List.getElem?_eq_some_iff.1 hv).1; omega
            have h9 := h8 i hi
            rw [hv, add_add] at h9
            rw [kd_sz]
            rw [cell_same (hW _ (cell_lt h9))]
            exact h9
      · cases h
    · rename_i fs hu
      rw [Bool.and_eq_true] at h
      obtain ⟨xs, n, rfl, _, hl, hlen, hf⟩ := DataW.trod_struct hu hy
      have := opFs_ok (cs := cs) (n := n) (fun T t hc cs y hy => open_K d T t hc n cs y hy) fs.toList 0 t h.2 (fun f hm => by
        obtain ⟨i, hi⟩ := List.getElem?_of_mem hm
        have hi' : fs[i]? = some f := by rw [← Array.getElem?_toList]; exact hi
        have hlt : i < xs.length := by
          have := (Array.getElem?_eq_some_iff.1 hi').1
          omega
        exact ⟨xs[i], by rw [hf i f hi', List.getElem?_eq_getElem hlt]⟩)
      rw [List.drop_zero, List.take_of_length_le (by have := Nat.eq_of_beq_eq_true h.1; omega)] at this
      exact this
    · rename_i n e hu
      rw [Bool.and_eq_true] at h
      obtain ⟨xs, m, rfl, _, hl, hlen, hf⟩ := DataW.trod_array hu hy
      have := opAr_ok (cs := cs) (n := m) (z := P.cellsOf e) (fun t hc cs y hy => open_K d e t hc m cs y hy) n 0 t h.2 (fun j _ hj => by
        have hlt : j < xs.length := by omega
        exact ⟨xs[j], by rw [hf j (by omega), List.getElem?_eq_getElem hlt]⟩)
      rw [Nat.zero_mul, List.drop_zero, List.take_of_length_le (by have := Nat.eq_of_beq_eq_true h.1; omega)] at this
      exact this
    · cases h

/-- An argument, as the evaluator has it. -/
theorem open_arg {d : Nat} {T : TypeId} {t : Ty} {agg : Bool} {v : Value} {y : DataW H} {ps : List MemPlace} {r : Reach} {b0 : Nat} (hc : opChk P d T t = true) (hv : Value.okWide P W r b0 T v) (ha : agg = true → ∃ vs, v = .agg vs) (hb : agg = false → v.cells = #[v])
    (h : DataW.Trod enc P W base sp held T v y ps) : ∃ x : t.D, t.fine x ∧ VRel (fun _ => undef) (fun _ => False) (fun _ => True) W (wrapA agg (unpack t x)) v := by
  obtain ⟨fuel, hf⟩ := h
  obtain ⟨x, hx, hk⟩ := open_K d T t hc _ _ _ hf
  refine ⟨x, hx, ?_⟩
  have hFK : Kd.FK t.kd W (fun _ => True) x v.cells.toList := fun W' hW => hk W' (fun k hk => hW k trivial hk)
  have h1 := unpack_rel (μ := fun _ => undef) (Nm := fun _ => False) t x _ hFK
  cases agg with
  | true =>
    obtain ⟨vs, rfl⟩ := ha rfl
    simp only [wrapA, VRel]
    exact ⟨vs, rfl, h1⟩
  | false =>
    have h2 := VRels_get h1 0
    rw [hb rfl] at h2
    simpa [wrapA] using h2

/-- Of which kind a parameter's type is: a struct or an array (true), a number, a bool, a slice (false). -/
def kindB (P : Program) (T : TypeId) : Option Bool := match P.underlying T with
  | some (.int _) => some false
  | some .bool => some false
  | some (.slice _) => some false
  | some (.struct _) => some true
  | some (.array _ _) => some true
  | _ => none
theorem kind_agg {T : TypeId} {v : Value} {r : Reach} {b0 : Nat} (h : kindB P T = some true) (hv : Value.okWide P W r b0 T v) : ∃ vs, v = .agg vs := by
  unfold kindB at h
  unfold Value.okWide at hv
  split at h <;> try (cases h; done)
  · rename_i hu; rw [hu] at hv; obtain ⟨cs, rfl, _⟩ := hv; exact ⟨cs, rfl⟩
  · rename_i hu; rw [hu] at hv; obtain ⟨cs, rfl, _⟩ := hv; exact ⟨cs, rfl⟩
theorem kind_one {T : TypeId} {v : Value} {r : Reach} {b0 : Nat} (h : kindB P T = some false) (hv : Value.okWide P W r b0 T v) : v.cells = #[v] := by
  unfold kindB at h
  split at h <;> try (cases h; done)
  · rename_i hu
    obtain ⟨n, rfl⟩ := okWide_int hu hv; rfl
  · rename_i hu
    simp only [Value.okWide, hu, Cell.okWide] at hv
    cases v <;> simp_all [Cell.ok, Value.cells]
  · rename_i hu
    obtain ⟨a, l, c, rfl⟩ := okWide_slice hu hv; rfl

/-- A parameter of a law, opened; what it reads as behind the call. -/
theorem open_par {d : Nat} {T : TypeId} {t : Ty} {agg : Bool} {v : Value} {y : DataW H} {ps : List MemPlace} {r : Reach} {b0 : Nat} (hk : kindB P T = some agg) (hc : opChk P d T t = true) (hv : Value.okWide P W r b0 T v)
    (h : DataW.Trod enc P W base sp held T v y ps) : ∃ x : t.D, t.fine x ∧ VRel (fun _ => undef) (fun _ => False) (fun _ => True) W (wrapA agg (unpack t x)) v :=
  open_arg hc hv (fun e => kind_agg (by rw [hk, e]) hv) (fun e => kind_one (by rw [hk, e]) hv) h
theorem shut_par {T : TypeId} {W' : World} {v : Value} {y : DataW H} {ps : List MemPlace} (hl : laidOutB P = true) (hr : P.readableRec T = true) (hrow : T < P.types.size)
    (h : DataW.Trod enc P W 0 (fun _ => true) true T v y ps) (hb : Below W.heap.size W W') : DataW.Trod enc P W' 0 (fun b => decide (b < W.heap.size)) true T v y ps :=
  Below.trod hl hr hrow h hb (by obtain ⟨m, hm⟩ := h; exact DataW.trod_lt m _ _ _ hm)
end
end Go.Proofs.Ytnlfdfjkgaanjaa.Ab
