import Derived.Test.YtinopkpnlibopaaAbFn
import Derived.ChangeKeysEq
import Derived.Laws.StructEq
/- The tables of types, and what is asked of them. -/
set_option linter.unusedVariables false
set_option linter.unusedSimpArgs false
namespace Go.Proofs.Ytinopkpnlibopaa.Ab
open Go.RowKit

def lk {α : Type} : List (Nat × α) → Nat → Option α
  | [], _ => none
  | (i, x) :: r, n => match Nat.beq i n with | true => some x | false => lk r n
def lkN {α : Type} : List α → Nat → Option α
  | [], _ => none
  | x :: _, 0 => some x
  | _ :: r, n + 1 => lkN r n

/-- The tables. -/
structure Tab where
  ty : List (Nat × Ty)
  byt : List (Nat × Nat)
  agg : List (Nat × Unit)
  elem : List (Nat × TypeId)
  ik : List (Nat × IntKind)
  arr : List (Nat × (Nat × TypeId))
  fld : List (Nat × List (Nat × TypeId))
  map : List (Nat × (TypeId × TypeId))
  eq : List (Nat × Unit)

def hasB {α : Type} : Option α → Bool
  | some _ => true
  | none => false

def Tab.env (t : Tab) (fn : FuncId → Option Fn) (hint : Nat → Nat) : Env where
  agg := fun T => hasB (lk t.agg T)
  ty := fun T => lk t.ty T
  elem := fun T => lk t.elem T
  byt := fun T => match lk t.byt T with | some n => n | none => 0
  fld := fun T f => match lk t.fld T with | some l => lkN l f | none => none
  arr := fun T => lk t.arr T
  ik := fun T => lk t.ik T
  hint := hint
  eqT := fun T => hasB (lk t.eq T)
  fn := fn
  map := fun T => lk t.map T

theorem lk_mem {α : Type} : ∀ {l : List (Nat × α)} {n : Nat} {x : α}, lk l n = some x → (n, x) ∈ l
  | [], _, _, h => by cases h
  | (i, y) :: r, n, x, h => by
    simp only [lk] at h
    split at h
    · rename_i e
      have := Nat.eq_of_beq_eq_true e; subst this
      injection h with h; subst h
      exact List.mem_cons_self
    · exact List.mem_cons_of_mem _ (lk_mem h)

theorem lkN_get {α : Type} : ∀ {l : List α} {n : Nat} {x : α}, lkN l n = some x → l[n]? = some x
  | [], _, _, h => by cases h
  | y :: _, 0, x, h => by simp only [lkN] at h; simpa using h
  | _ :: r, n + 1, x, h => by simp only [lkN] at h; simpa using lkN_get h

theorem map_eq_mem {α β : Type} {f g : α → β} : ∀ {l : List α}, l.map f = l.map g → ∀ x ∈ l, f x = g x
  | [], _, x, hx => by cases hx
  | y :: l, h, x, hx => by
    simp only [List.map_cons, List.cons.injEq] at h
    rcases List.mem_cons.1 hx with rfl | hx
    · exact h.1
    · exact map_eq_mem h.2 x hx

/-! Types that can be compared. -/
def tyIs (E : Env) (U : TypeId) (a : Ty) : Bool := match E.ty U with | some u => u.beq a | none => false
def eqFs (E : Env) (chk : TypeId → Ty → Bool) : List Field → Nat → Ty → Bool
  | [], _, _ => false
  | f :: r, off, t => match r with
    | [] => f.name != "_" && (Nat.beq f.offset off && (tyIs E f.type t && chk f.type t))
    | _ :: _ => (match t with
      | .pair a b => f.name != "_" && (Nat.beq f.offset off && (tyIs E f.type a && chk f.type a)) && eqFs E chk r (off + a.sz) b
      | _ => false)
def eqAr : Nat → Ty → Ty → Bool
  | 0, _, _ => false
  | n + 1, u, t => match n with
    | 0 => t.beq u
    | _ + 1 => (match t with
      | .pair a b => a.beq u && eqAr n u b
      | _ => false)
def eqChk (P : Program) (E : Env) : Nat → TypeId → Ty → Bool
  | 0, _, _ => false
  | d + 1, T, t => match P.underlying T with
    | some (.int _) => (match t with | .int _ => true | _ => false)
    | some .bool => (match t with | .bool => true | _ => false)
    | some (.struct fs) => !P.stoodInHeld T && eqFs E (eqChk P E d) fs.toList 0 t
    | some (.array n e) => (match E.ty e with | some u => eqChk P E d e u && eqAr n u t | none => false)
    | _ => false

structure EqD (P : Program) (E : Env) (d : Nat) (T : TypeId) (t : Ty) : Prop where
  nos : t.nos = true
  equal : ∀ d', d ≤ d' → ∀ (x y : t.D) (w : World), (Op.equalIn d' T (wrapV (E.agg T) (valsD t x)) (wrapV (E.agg T) (valsD t y))).run P w = .ok (beqD t x y) w
  key : ∀ d', d ≤ d' → ∀ (e : Bool) (x : t.D) (w : World), (Instr.checkKey e d' T (wrapV (E.agg T) (valsD t x))).run P w = .ok () w

section
variable {P : Program} {E : Env}

theorem tyIs_eq {U : TypeId} {a : Ty} (h : tyIs E U a = true) : E.ty U = some a := by
  unfold tyIs at h
  split at h
  · rename_i u hu; rw [hu, Ty.beq_eq h]
  · cases h

theorem nos_flat : ∀ t : Ty, t.nos = true → t.flat = true
  | .unit, _ | .int _, _ | .bool, _ => rfl
  | .str, h => by cases h
  | .sl _ _, h => by cases h
  | .pair a b, h => by
    simp only [Ty.nos, Bool.and_eq_true] at h
    simp only [Ty.flat, Bool.and_eq_true]
    exact ⟨nos_flat a h.1, nos_flat b h.2⟩

theorem nos_len {t : Ty} (h : t.nos = true) (x : t.D) : (valsD t x).length = t.sz := vals_len t (nos_flat t h) x

/-- A part of cells. -/
theorem part_run (hE : ∀ T t, E.ty T = some t → TyOK P E T t) {U : TypeId} {a : Ty} (hU : E.ty U = some a) {l vs r : List Value} (hv : vs.length = a.sz) (w : World) : (part U (l ++ vs ++ r).toArray l.length).run P w = .ok (wrapV (E.agg U) vs) w := by
  have hT := hE U a hU
  unfold part
  rw [Sem.run_bind, run_isAgg hT w]
  cases hA : E.agg U with
  | true =>
    simp only [Result.andThen, if_true, Sem.run_bind, run_sizeOf' hT w, wrapV, Sem.run_pure]
    congr 2
    apply Array.ext'
    simp [Array.toList_extract, List.extract, ← hv]
  | false =>
    have h4 := hT.one hA
    have hp := hT.pos
    have h5 : l.length < (l ++ vs ++ r).length := by simp; omega
    cases vs with
    | nil => simp at hv; omega
    | cons v vs => simp [Result.andThen, wrapV, List.getD]

theorem eqf_cons' {d : Nat} {xs ys : Array Value} {f : Field} {fs : List Field} {a b : Value} {r s : Bool} {w : World} (hn : f.name ≠ "_") (ha : (part f.type xs f.offset).run P w = .ok a w) (hb : (part f.type ys f.offset).run P w = .ok b w) (he : (Op.equalIn d f.type a b).run P w = .ok r w) (hr : (Op.eqFields d xs ys fs).run P w = .ok s w) : (Op.eqFields d xs ys (f :: fs)).run P w = .ok (r && s) w := by
  rw [Op.eqFields]
  simp only [if_pos hn, Sem.run_bind, ha, hb, he, Result.andThen_ok]
  cases r
  · simp
  · simpa using hr

theorem eqFs_ok (hE : ∀ T t, E.ty T = some t → TyOK P E T t) {d : Nat} (ih : ∀ T t, E.ty T = some t → eqChk P E d T t = true → EqD P E d T t) : ∀ (fs : List Field) (t : Ty) (l1 l2 : List Value) (off : Nat), l1.length = off → l2.length = off → eqFs E (eqChk P E d) fs off t = true →
    t.nos = true ∧ ∀ d', d ≤ d' → ∀ (x y : t.D) (w : World) , (Op.eqFields d' (l1 ++ valsD t x).toArray (l2 ++ valsD t y).toArray fs).run P w = .ok (beqD t x y) w
  | [], t, l1, l2, off, h1, h2, h => by cases h
  | [f], t, l1, l2, off, h1, h2, h => by
    simp only [eqFs, Bool.and_eq_true, bne_iff_ne] at h
    obtain ⟨hn, ho, ht, hc⟩ := h
    have ht := tyIs_eq ht
    have ho := Nat.eq_of_beq_eq_true ho
    have hd := ih _ _ ht hc
    refine ⟨hd.nos, fun d' hd' x y w => ?_⟩
    have p1 := part_run hE ht (l := l1) (r := []) (nos_len hd.nos x) w
    have p2 := part_run hE ht (l := l2) (r := []) (nos_len hd.nos y) w
    rw [List.append_nil, h1, ← ho] at p1
    rw [List.append_nil, h2, ← ho] at p2
    have := eqf_cons' (fs := []) hn p1 p2 (hd.equal d' hd' x y w) (s := true) (by simp [Op.eqFields])
    rw [Bool.and_true] at this
    exact this
  | f :: g :: r, t, l1, l2, off, h1, h2, h => by
    simp only [eqFs] at h
    cases t with
    | pair a b =>
      simp only [Bool.and_eq_true, bne_iff_ne] at h
      obtain ⟨⟨hn, ho, ht, hc⟩, hr⟩ := h
      have ht := tyIs_eq ht
      have ho := Nat.eq_of_beq_eq_true ho
      have hd := ih _ _ ht hc
      have hbn : b.nos = true := (eqFs_ok hE ih (g :: r) b (List.replicate (off + a.sz) undef) (List.replicate (off + a.sz) undef) (off + a.sz) (by simp) (by simp) hr).1
      refine ⟨by simp only [Ty.nos, Bool.and_eq_true]; exact ⟨hd.nos, hbn⟩, fun d' hd' x y w => ?_⟩
      have hrec := (eqFs_ok hE ih (g :: r) b (l1 ++ valsD a x.1) (l2 ++ valsD a y.1) (off + a.sz) (by simp [h1, nos_len hd.nos]) (by simp [h2, nos_len hd.nos]) hr).2 d' hd' x.2 y.2 w
      have p1 := part_run hE ht (l := l1) (r := valsD b x.2) (nos_len hd.nos x.1) w
      have p2 := part_run hE ht (l := l2) (r := valsD b y.2) (nos_len hd.nos y.1) w
      rw [h1, ← ho] at p1
      rw [h2, ← ho] at p2
      have := eqf_cons' (fs := g :: r) hn p1 p2 (hd.equal d' hd' x.1 y.1 w) hrec
      simp only [valsD, ← List.append_assoc]
      exact this
    | _ => cases h

theorem eqAr_ok (hE : ∀ T t, E.ty T = some t → TyOK P E T t) {d : Nat} {e : TypeId} {u : Ty} (he : E.ty e = some u) (hd : EqD P E d e u) : ∀ (n : Nat) (t : Ty) (l1 l2 : List Value) (i : Nat), l1.length = i * u.sz → l2.length = i * u.sz → eqAr n u t = true →
    t.nos = true ∧ ∀ d', d ≤ d' → ∀ (x y : t.D) (w : World), (Op.eqItems d' e u.sz (l1 ++ valsD t x).toArray (l2 ++ valsD t y).toArray (List.range' i n)).run P w = .ok (beqD t x y) w
  | 0, t, l1, l2, i, h1, h2, h => by cases h
  | 1, t, l1, l2, i, h1, h2, h => by
    simp only [eqAr] at h
    have := Ty.beq_eq h; subst this
    refine ⟨hd.nos, fun d' hd' x y w => ?_⟩
    have p1 := part_run hE he (l := l1) (r := []) (nos_len hd.nos x) w
    have p2 := part_run hE he (l := l2) (r := []) (nos_len hd.nos y) w
    rw [List.append_nil, h1] at p1
    rw [List.append_nil, h2] at p2
    simp only [List.range'_succ, List.range'_zero, Op.eqItems, Sem.run_bind, p1, p2, hd.equal d' hd' x y w, Result.andThen_ok]
    cases beqD t x y <;> simp
  | n + 2, t, l1, l2, i, h1, h2, h => by
    simp only [eqAr] at h
    cases t with
    | pair a b =>
      simp only [Bool.and_eq_true] at h
      have := Ty.beq_eq h.1; subst this
      have hbn : b.nos = true := (eqAr_ok hE he hd (n + 1) b (List.replicate ((i + 1) * a.sz) undef) (List.replicate ((i + 1) * a.sz) undef) (i + 1) (by simp) (by simp) h.2).1
      refine ⟨by simp only [Ty.nos, Bool.and_eq_true]; exact ⟨hd.nos, hbn⟩, fun d' hd' x y w => ?_⟩
      have hrec := (eqAr_ok hE he hd (n + 1) b (l1 ++ valsD a x.1) (l2 ++ valsD a y.1) (i + 1) (by simp [h1, nos_len hd.nos, Nat.add_mul]) (by simp [h2, nos_len hd.nos, Nat.add_mul]) h.2).2 d' hd' x.2 y.2 w
      have p1 := part_run hE he (l := l1) (r := valsD b x.2) (nos_len hd.nos x.1) w
      have p2 := part_run hE he (l := l2) (r := valsD b y.2) (nos_len hd.nos y.1) w
      rw [h1] at p1
      rw [h2] at p2
      rw [List.range'_succ]
      simp only [valsD, beqD, ← List.append_assoc]
      simp only [Op.eqItems, Sem.run_bind, p1, p2, hd.equal d' hd' x.1 y.1 w, Result.andThen_ok]
      cases hb : beqD a x.1 y.1 with
      | false => simp
      | true => simpa using hrec
    | _ => cases h

theorem keyFs_ok (hE : ∀ T t, E.ty T = some t → TyOK P E T t) {d : Nat} (ih : ∀ T t, E.ty T = some t → eqChk P E d T t = true → EqD P E d T t) : ∀ (fs : List Field) (t : Ty) (l1 : List Value) (off : Nat), l1.length = off → eqFs E (eqChk P E d) fs off t = true →
    ∀ d', d ≤ d' → ∀ (e : Bool) (x : t.D) (w : World), (forIn fs PUnit.unit (fun (f : Field) (_ : PUnit) => if f.name ≠ "_" then do
              let v ← part f.type (l1 ++ valsD t x).toArray f.offset
              Instr.checkKey e d' f.type v
              pure (ForInStep.yield PUnit.unit)
            else pure (ForInStep.yield PUnit.unit)) : Sem PUnit).run P w = .ok PUnit.unit w
  | [], t, l1, off, h1, h => by cases h
  | [f], t, l1, off, h1, h => by
    simp only [eqFs, Bool.and_eq_true, bne_iff_ne] at h
    obtain ⟨hn, ho, ht, hc⟩ := h
    have ht := tyIs_eq ht
    have ho := Nat.eq_of_beq_eq_true ho
    have hd := ih _ _ ht hc
    intro d' hd' e x w
    have p1 := part_run hE ht (l := l1) (r := []) (nos_len hd.nos x) w
    rw [List.append_nil, h1, ← ho] at p1
    simp only [List.forIn_cons, if_pos hn, Sem.run_bind, p1, hd.key d' hd' e x w, Result.andThen_ok, Sem.run_pure, List.forIn_nil]
  | f :: g :: r, t, l1, off, h1, h => by
    simp only [eqFs] at h
    cases t with
    | pair a b =>
      simp only [Bool.and_eq_true, bne_iff_ne] at h
      obtain ⟨⟨hn, ho, ht, hc⟩, hr⟩ := h
      have ht := tyIs_eq ht
      have ho := Nat.eq_of_beq_eq_true ho
      have hd := ih _ _ ht hc
      intro d' hd' e x w
      have hrec := keyFs_ok hE ih (g :: r) b (l1 ++ valsD a x.1) (off + a.sz) (by simp [h1, nos_len hd.nos]) hr d' hd' e x.2 w
      have p1 := part_run hE ht (l := l1) (r := valsD b x.2) (nos_len hd.nos x.1) w
      rw [h1, ← ho] at p1
      rw [List.forIn_cons]
      simp only [valsD, ← List.append_assoc]
      simp only [if_pos hn, Sem.run_bind, p1, hd.key d' hd' e x.1 w, Result.andThen_ok, Sem.run_pure]
      exact hrec
    | _ => cases h

theorem keyAr_ok (hE : ∀ T t, E.ty T = some t → TyOK P E T t) {d : Nat} {e : TypeId} {u : Ty} (he : E.ty e = some u) (hd : EqD P E d e u) : ∀ (n : Nat) (t : Ty) (l1 : List Value) (i : Nat), l1.length = i * u.sz → eqAr n u t = true →
    ∀ d', d ≤ d' → ∀ (b' : Bool) (x : t.D) (w : World), (forIn (List.range' i n) PUnit.unit (fun (i : Nat) (_ : PUnit) => do
            let s ← sizeOf e
            let v ← part e (l1 ++ valsD t x).toArray (i * s)
            Instr.checkKey b' d' e v
            pure (ForInStep.yield PUnit.unit)) : Sem PUnit).run P w = .ok PUnit.unit w
  | 0, t, l1, i, h1, h => by cases h
  | 1, t, l1, i, h1, h => by
    simp only [eqAr] at h
    have := Ty.beq_eq h; subst this
    intro d' hd' b' x w
    have p1 := part_run hE he (l := l1) (r := []) (nos_len hd.nos x) w
    rw [List.append_nil, h1] at p1
    simp only [List.range'_succ, List.range'_zero, List.forIn_cons, List.forIn_nil, Sem.run_bind, run_sizeOf' (hE e _ he) w, Result.andThen_ok, p1, hd.key d' hd' b' x w, Sem.run_pure]
  | n + 2, t, l1, i, h1, h => by
    simp only [eqAr] at h
    cases t with
    | pair a b =>
      simp only [Bool.and_eq_true] at h
      have := Ty.beq_eq h.1; subst this
      intro d' hd' b' x w
      have hrec := keyAr_ok hE he hd (n + 1) b (l1 ++ valsD a x.1) (i + 1) (by simp [h1, nos_len hd.nos, Nat.add_mul]) h.2 d' hd' b' x.2 w
      have p1 := part_run hE he (l := l1) (r := valsD b x.2) (nos_len hd.nos x.1) w
      rw [h1] at p1
      rw [List.range'_succ, List.forIn_cons]
      simp only [valsD, ← List.append_assoc]
      simp only [Sem.run_bind, run_sizeOf' (hE e _ he) w, Result.andThen_ok, p1, hd.key d' hd' b' x.1 w, Sem.run_pure]
      exact hrec
    | _ => cases h

theorem eqD_ok (hE : ∀ T t, E.ty T = some t → TyOK P E T t) : ∀ (d : Nat) (T : TypeId) (t : Ty), E.ty T = some t → eqChk P E d T t = true → EqD P E d T t
  | 0, T, t, _, h => by cases h
  | d + 1, T, t, hT, h => by
    have ih := fun T t h1 h2 => eqD_ok hE d T t h1 h2
    have hTy := hE T t hT
    obtain ⟨dd, hu0, hrow⟩ := hTy.und
    simp only [eqChk] at h
    split at h
    · rename_i k hu
      rw [hu] at hu0
      injection hu0 with hu0
      subst hu0
      have hA : E.agg T = false := by rw [← hrow]
      cases t <;> first | (cases h; done) | skip
      rename_i k'
      refine ⟨rfl, fun d' hd' x y w => ?_, fun d' hd' e x w => ?_⟩
      · obtain ⟨d'', rfl⟩ : ∃ d'', d' = d'' + 1 := ⟨d' - 1, by omega⟩
        rw [hA]
        exact equalIn_int d'' hu
      · obtain ⟨d'', rfl⟩ : ∃ d'', d' = d'' + 1 := ⟨d' - 1, by omega⟩
        rw [hA]
        simp [Instr.checkKey, run_underlying hu, Sem.run_bind, Result.andThen, wrapV, valsD]
    · rename_i hu
      rw [hu] at hu0
      injection hu0 with hu0
      subst hu0
      have hA : E.agg T = false := by rw [← hrow]
      cases t <;> first | (cases h; done) | skip
      refine ⟨rfl, fun d' hd' x y w => ?_, fun d' hd' e x w => ?_⟩
      · obtain ⟨d'', rfl⟩ : ∃ d'', d' = d'' + 1 := ⟨d' - 1, by omega⟩
        rw [hA]
        exact equalIn_bool d'' hu
      · obtain ⟨d'', rfl⟩ : ∃ d'', d' = d'' + 1 := ⟨d' - 1, by omega⟩
        rw [hA]
        simp [Instr.checkKey, run_underlying hu, Sem.run_bind, Result.andThen, wrapV, valsD]
    · rename_i fs hu
      rw [hu] at hu0
      injection hu0 with hu0
      subst hu0
      have hA : E.agg T = true := by rw [← hrow]
      simp only [Bool.and_eq_true, Bool.not_eq_true'] at h
      have hf : P.fieldsOf T = fs := by simp [Program.fieldsOf, hu]
      obtain ⟨hnos, heq⟩ := eqFs_ok hE ih fs.toList t [] [] 0 rfl rfl h.2
      refine ⟨hnos, fun d' hd' x y w => ?_, fun d' hd' e x w => ?_⟩
      · obtain ⟨d'', rfl⟩ : ∃ d'', d' = d'' + 1 := ⟨d' - 1, by omega⟩
        rw [hA]
        simp only [wrapV]
        rw [run_equalIn_struct (P := P) w d'' T _ _ (by rw [hf]; exact hu) h.1, hf]
        exact heq d'' (by omega) x y w
      · obtain ⟨d'', rfl⟩ : ∃ d'', d' = d'' + 1 := ⟨d' - 1, by omega⟩
        rw [hA]
        simp only [wrapV, Instr.checkKey, Sem.run_bind, run_underlying hu, Result.andThen_ok]
        rw [← Array.forIn_toList]
        have := keyFs_ok hE ih fs.toList t [] 0 rfl h.2 d'' (by omega) e x w
        simp only [List.nil_append] at this
        rw [this]
        rfl
    · rename_i n e hu
      rw [hu] at hu0
      injection hu0 with hu0
      subst hu0
      have hA : E.agg T = true := by rw [← hrow]
      split at h
      · rename_i u he
        simp only [Bool.and_eq_true] at h
        have hd := ih e u he h.1
        obtain ⟨hnos, heq⟩ := eqAr_ok hE he hd n t [] [] 0 (by simp) (by simp) h.2
        obtain ⟨i, z, hi, hsz, _⟩ := (hE e u he).info
        have hc : P.cellsOf e = u.sz := by simp [Program.cellsOf, hi, hsz]
        refine ⟨hnos, fun d' hd' x y w => ?_, fun d' hd' e' x w => ?_⟩
        · obtain ⟨d'', rfl⟩ : ∃ d'', d' = d'' + 1 := ⟨d' - 1, by omega⟩
          rw [hA]
          simp only [wrapV]
          rw [run_equalIn_array w d'' _ _ hu hi, hc, List.range_eq_range']
          exact heq d'' (by omega) x y w
        · obtain ⟨d'', rfl⟩ : ∃ d'', d' = d'' + 1 := ⟨d' - 1, by omega⟩
          rw [hA]
          simp only [wrapV, Instr.checkKey, Sem.run_bind, run_underlying hu, Result.andThen_ok]
          simp only [Std.Legacy.Range.forIn_eq_forIn_range', Std.Legacy.Range.size, Nat.sub_zero, Nat.add_one_sub_one, Nat.div_one]
          have := keyAr_ok hE he hd n t [] 0 (by simp) h.2 d'' (by omega) e' x w
          simp only [List.nil_append] at this
          rw [this]
          rfl
      · cases h
    · cases h

/-- What must hold of the tables: equations that the kernel reckons out. -/
structure TabOK (P : Program) (t : Tab) : Prop where
  und : t.ty.map (fun p => (P.underlying p.1).map (·.isRow)) = t.ty.map (fun p => some (hasB (lk t.agg p.1)))
  info : t.ty.map (fun p => (P.info? p.1).map fun i => (i.size, i.bytes, i.zero.map (·.cells.toList), i.zero)) = t.ty.map (fun p => some (p.2.sz, (match lk t.byt p.1 with | some n => n | none => 0), some (zeroV p.2), some (wrapV (hasB (lk t.agg p.1)) (zeroV p.2))))
  desc : (t.ty.filter fun p => !hasB (lk t.agg p.1)).map (fun p => P.underlying p.1) = (t.ty.filter fun p => !hasB (lk t.agg p.1)).map (fun p => descOf p.2)
  pos : (t.ty.all fun p => Nat.blt 0 p.2.sz && (Nat.blt 0 (match lk t.byt p.1 with | some n => n | none => 0) && (hasB (lk t.agg p.1) || Nat.beq p.2.sz 1))) = true
  elem : t.elem.map (fun p => P.underlying p.1) = t.elem.map (fun p => some (.slice p.2))
  ik : t.ik.map (fun p => P.underlying p.1) = t.ik.map (fun p => some (.int p.2))
  arr : t.arr.map (fun p => P.underlying p.1) = t.arr.map (fun p => some (.array p.2.1 p.2.2))
  arrT : (t.arr.all fun p => hasB (lk t.ty p.2.2)) = true
  fld : t.fld.map (fun p => match P.underlying p.1 with | some (.struct fs) => some (fs.toList.map fun f => (f.offset, f.type)) | _ => none) = t.fld.map (fun p => some p.2)
  fldT : (t.ty.all fun p => !hasB (lk t.agg p.1) || (hasB (lk t.arr p.1) || (match lk t.fld p.1 with | some l => l.all fun q => hasB (lk t.ty q.2) | none => false))) = true
  map : t.map.map (fun p => P.underlying p.1) = t.map.map (fun p => some (.map p.2.1 p.2.2))
  eq : (t.eq.all fun p => match lk t.ty p.1 with | some u => eqChk P (t.env (fun _ => none) fun _ => 0) 30 p.1 u && !P.eqGuardType P.depth p.1 | none => true) = true

theorem hasB_some {α : Type} {x : Option α} (h : hasB x = true) : ∃ y, x = some y := by cases x <;> first | exact ⟨_, rfl⟩ | cases h

theorem eqChk_env {t : Tab} {fn fn' : FuncId → Option Fn} {hint hint' : Nat → Nat} : eqChk P (t.env fn hint) = eqChk P (t.env fn' hint') := by
  have h1 : ∀ chk, eqFs (t.env fn hint) chk = eqFs (t.env fn' hint') chk := by
    intro chk
    funext fs
    induction fs with
    | nil => rfl
    | cons f r ih => funext off u; simp only [eqFs]; rw [ih]; rfl
  funext d
  induction d with
  | zero => rfl
  | succ d ih => funext T u; simp only [eqChk]; rw [ih, h1]; rfl

theorem tyOK_of {t : Tab} (h : TabOK P t) (fn : FuncId → Option Fn) (hint : Nat → Nat) (T : TypeId) (u : Ty) (hT : (t.env fn hint).ty T = some u) : TyOK P (t.env fn hint) T u := by
  have hm : (T, u) ∈ t.ty := lk_mem hT
  have h1 := map_eq_mem h.und _ hm
  have h2 := map_eq_mem h.info _ hm
  have h3 := List.all_eq_true.1 h.pos _ hm
  simp only [Bool.and_eq_true, Bool.or_eq_true, Nat.blt_eq] at h1 h2 h3
  have hagg : (t.env fn hint).agg T = hasB (lk t.agg T) := rfl
  have hbyt : (t.env fn hint).byt T = (match lk t.byt T with | some n => n | none => 0) := rfl
  cases hu : P.underlying T with
  | none => rw [hu] at h1; cases h1
  | some d =>
    rw [hu] at h1
    simp only [Option.map_some, Option.some.injEq] at h1
    cases hi : P.info? T with
    | none => rw [hi] at h2; cases h2
    | some i =>
      rw [hi] at h2
      simp only [Option.map_some, Option.some.injEq, Prod.mk.injEq] at h2
      obtain ⟨a1, a2, a3, a4⟩ := h2
      refine ⟨⟨d, hu, by rw [h1, hagg]⟩, fun hA => ?_, ?_, ⟨i, hi, by rw [a4, hagg]⟩, h3.1, by rw [hbyt]; exact h3.2.1, fun hA => ?_⟩
      · have hm2 : (T, u) ∈ t.ty.filter fun p => !hasB (lk t.agg p.1) := List.mem_filter.2 ⟨hm, by rw [hagg] at hA; simp [hA]⟩
        exact map_eq_mem h.desc _ hm2
      · rw [a4] at a3
        simp only [Option.map_some, Option.some.injEq] at a3
        exact ⟨i, _, hi, a1, by rw [a2, hbyt], a4, a3⟩
      · rw [hagg] at hA
        rcases h3.2.2 with h | h
        · rw [hA] at h; cases h
        · exact Nat.eq_of_beq_eq_true h

theorem mapM_sizes {t : Tab} (h : TabOK P t) (fn : FuncId → Option Fn) (hint : Nat → Nat) : ∀ (fs : List Field), (∀ f ∈ fs, hasB (lk t.ty f.type) = true) → ∃ pl : List (Nat × Nat), (∀ w, (fs.mapM (fun (f : Field) => do pure (f.offset, ← sizeOf f.type)) : Sem (List (Nat × Nat))).run P w = .ok pl w) ∧ ∀ (i : Nat) (f : Field) (u : Ty), fs[i]? = some f → lk t.ty f.type = some u → pl[i]? = some (f.offset, u.sz)
  | [], _ => ⟨[], fun w => rfl, fun i f u hf _ => by simp at hf⟩
  | f :: fs, hf => by
    obtain ⟨pl, h1, h2⟩ := mapM_sizes h fn hint fs (fun g hg => hf g (List.mem_cons_of_mem _ hg))
    obtain ⟨u, hu⟩ := hasB_some (hf f List.mem_cons_self)
    have hs := fun w => run_sizeOf' (tyOK_of h fn hint f.type u hu) w
    refine ⟨(f.offset, u.sz) :: pl, fun w => ?_, fun i g v hg hv => ?_⟩
    · simp only [List.mapM_cons, Sem.run_bind, hs w, Result.andThen_ok, Sem.run_pure, h1 w]
    · cases i with
      | zero =>
        simp at hg
        subst hg
        rw [hu] at hv
        injection hv with hv; subst hv
        rfl
      | succ i => simp at hg; simpa using h2 i g v hg hv

theorem envOK_of {t : Tab} (h : TabOK P t) (fn : FuncId → Option Fn) (hint : Nat → Nat) (hfn : ∀ f F, fn f = some F → FnOK P f F) : EnvOK P (t.env fn hint) where
  ty := tyOK_of h fn hint
  elem := fun T e he => map_eq_mem h.elem _ (lk_mem he)
  fld := fun T f o U hf => by
    have hf' : (match lk t.fld T with | some l => lkN l f | none => none) = some (o, U) := hf
    split at hf'
    · rename_i l hl
      have h1 := map_eq_mem h.fld _ (lk_mem hl)
      simp only at h1
      split at h1
      · rename_i fs hu
        injection h1 with h1
        have h2 := lkN_get hf'
        rw [← h1, List.getElem?_map] at h2
        cases hg : fs.toList[f]? with
        | none => rw [hg] at h2; cases h2
        | some fd =>
          rw [hg] at h2
          simp only [Option.map_some, Option.some.injEq, Prod.mk.injEq] at h2
          exact ⟨fs, fd, hu, by rw [← Array.getElem?_toList]; exact hg, h2.1, h2.2⟩
      · cases h1
    · cases hf'
  arr := fun T n U he => map_eq_mem h.arr _ (lk_mem he)
  arrT := fun T n U he => hasB_some (List.all_eq_true.1 h.arrT _ (lk_mem he))
  build := fun T u hT hA hr => by
    have hm : (T, u) ∈ t.ty := lk_mem hT
    have h1 := List.all_eq_true.1 h.fldT _ hm
    have hA' : hasB (lk t.agg T) = true := hA
    have hr' : lk t.arr T = none := hr
    have hnone : hasB (none : Option (Nat × TypeId)) = false := rfl
    simp only [hA', hr', hnone, Bool.not_true, Bool.false_or] at h1
    split at h1
    · rename_i l hl
      have h2 := map_eq_mem h.fld _ (lk_mem hl)
      simp only at h2
      split at h2
      · rename_i fs hu
        injection h2 with h2
        have h3 := List.all_eq_true.1 h1
        obtain ⟨pl, g1, g2⟩ := mapM_sizes h fn hint fs.toList (fun f hf => by
          have := h3 (f.offset, f.type) (by rw [← h2]; exact List.mem_map.2 ⟨f, hf, rfl⟩)
          exact this)
        refine ⟨fs, pl.toArray, hu, fun w => ?_, fun i off U u' hf hU => ?_⟩
        · rw [Array.mapM_eq_mapM_toList]
          simp only [map_eq_pure_bind, Sem.run_bind, g1 w, Result.andThen_ok, Sem.run_pure]
        · have hf' : (match lk t.fld T with | some l => lkN l i | none => none) = some (off, U) := hf
          rw [hl] at hf'
          have h4 := lkN_get hf'
          rw [← h2, List.getElem?_map] at h4
          cases hg : fs.toList[i]? with
          | none => rw [hg] at h4; cases h4
          | some fd =>
            rw [hg] at h4
            simp only [Option.map_some, Option.some.injEq, Prod.mk.injEq] at h4
            obtain ⟨h5, h6⟩ := h4
            subst h5; subst h6
            have := g2 i fd u' hg hU
            simpa using this
      · cases h2
    · cases h1
  ik := fun T k he => map_eq_mem h.ik _ (lk_mem he)
  fn := hfn
  eqT := fun T u he hT => by
    have hT' : lk t.ty T = some u := hT
    obtain ⟨_, hm⟩ := hasB_some he
    have h1 := List.all_eq_true.1 h.eq _ (lk_mem hm)
    simp only [hT', Bool.and_eq_true, Bool.not_eq_true'] at h1
    have hty := tyOK_of h fn hint
    have hd := eqD_ok hty 30 T u hT (by rw [eqChk_env (fn' := fun _ => none) (hint' := fun _ => 0)]; exact h1.1)
    refine ⟨nos_flat u hd.nos, hd.nos, (hty T u hT).one, fun x y w => hd.equal 10000 (by omega) x y w, fun hA op X Y a b w => ?_, fun e x w => hd.key 10000 (by omega) e x w⟩
    unfold eqGuard
    cases op <;> simp [Sem.run_bind, h1.2, Result.andThen]
  map := fun T k v he => map_eq_mem h.map _ (lk_mem he)
end
end Go.Proofs.Ytinopkpnlibopaa.Ab
