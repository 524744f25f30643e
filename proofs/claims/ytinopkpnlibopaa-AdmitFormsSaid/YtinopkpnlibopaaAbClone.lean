import Derived.Test.YtinopkpnlibopaaAbTab
import Derived.KernelRfl
/- A function that asks whether its row is nil: slices.Clone. -/
set_option linter.unusedVariables false
set_option linter.unusedSimpArgs false
namespace Go.Proofs.Ytinopkpnlibopaa.Ab
open Go.RowKit

section
variable {P : Program} {E : Env}

/-- Contracts, by number. -/
def AllFn (P : Program) : List (Nat × Fn) → Prop
  | [] => True
  | p :: r => FnOK P p.1 p.2 ∧ AllFn P r
theorem allFn_lk {P : Program} : ∀ {l : List (Nat × Fn)}, AllFn P l → ∀ f F, lk l f = some F → FnOK P f F
  | [], _, f, F, h => by cases h
  | (i, G) :: l, hl, f, F, h => by
    simp only [lk] at h
    split at h
    · rename_i e
      have := Nat.eq_of_beq_eq_true e; subst this
      injection h with h; subst h
      exact hl.1
    · exact allFn_lk hl.2 f F h

/-- A start with one row, of which it is known whether it is nil. -/
def entryZ (z : Bool) (e : TypeId) (t : Ty) (xs : List t.D) (n : Nat) : St := { sl := slotsOf 0 [.rz z e t xs], mem := fun _ => none, nxt := 0, n := n, np := 0 }

def clonePs (e : TypeId) (t : Ty) : List PT := [.val ⟨false, .sl e t, false⟩]
def cloneRs (e : TypeId) (t : Ty) : List RT := [.val ⟨false, .sl e t, true⟩]
def cloneSem (lim : Nat) (e : TypeId) (t : Ty) (_ : Nat) (x : AD (clonePs e t)) : Option (RD (cloneRs e t) × MD (clonePs e t)) :=
  if lenL x.1 * lim ≤ 140737488355328 then some ((x.1, ()), ()) else none

theorem nil_V {α : Type} {d : Kd α} {e : Nat} {W : World} {b : Nat} {ok : Nat → Prop} {n c : Nat} {xs : List α} (h : Kd.V d e W b ok (.slice none n c) xs) : xs = [] := by
  obtain ⟨A, c', hv, _, hF⟩ := h
  injection hv with h1 h2 h3
  subst h1
  cases xs with
  | nil => rfl
  | cons x xs =>
    have := hF.2
    obtain ⟨ad, h, _⟩ := this.2 (by simp)
    cases h

theorem clone_ok (hE : EnvOK P E) (hmix : P.follows .mixedOrders = true) {f : FuncId} {fn : Func} {C : Code} {e : TypeId} {t : Ty} {lim : Nat} (hf : P.funcs[f]? = some fn) (hb : fn.body = some C) (hname : (fn.name == "runtime.NumGoroutine") = false) (hps : Nat.ble 1 fn.ntmps = true)
    (hj : ∀ k, owed E k true (.nil : Tbl (RD (cloneRs e t) × MD (clonePs e t))) C (finish E (clonePs e t) (cloneRs e t) fn.results.toList) .nil = owed E k false .nil C (finish E (clonePs e t) (cloneRs e t) fn.results.toList) .nil)
    (h1 : ∀ k xs, evalM E k .nil C (finish E (clonePs e t) (cloneRs e t) fn.results.toList) (entryZ true e t xs fn.ntmps) = some (([], ()), ()))
    (h2 : ∀ k xs, evalM E k .nil C (finish E (clonePs e t) (cloneRs e t) fn.results.toList) (entryZ false e t xs fn.ntmps) = if (0 + xs.length) * lim ≤ 140737488355328 then some (([] ++ xs, ()), ()) else none) :
    FnOK P f ⟨clonePs e t, cloneRs e t, cloneSem lim e t⟩ where
  there := ⟨fn, hf, hname, by rw [hb]; rfl⟩
  calls := fun k x r hx c args μ Nm hent => by
    refine calls_of_wp hf hb ?_
    have hvals := hent.vals
    have hx' : (if lenL x.1 * lim ≤ 140737488355328 then some ((x.1, ()), ()) else none) = some r := hx
    obtain ⟨hlim, hr⟩ := ite_some hx'
    injection hr with hr
    subst hr
    have hnp : c.np = 0 := hent.np
    -- the one argument
    have harg : ∃ v, args = [v] ∧ VRel μ Nm (stab c μ (updL (fun _ => none) (inP (clonePs e t) x 0 (pinsN (clonePs e t))).2.1)) c.w0 (.ro e t x.1) v := by
      cases args with
      | nil => simp only [clonePs, inP, VRels] at hvals
      | cons v args =>
        cases args with
        | nil =>
          refine ⟨v, rfl, ?_⟩
          have := hvals
          simp only [clonePs, inP, VRels] at this
          exact this.1
        | cons _ _ => simp only [clonePs, inP, VRels] at hvals; exact hvals.2.elim
    obtain ⟨v, rfl, hv⟩ := harg
    have hv0 := hv
    simp only [VRel] at hv0
    have hV := hv0
    obtain ⟨A, cp, rfl, _⟩ := hv0
    have hrel : ∀ z, A.isNone = z → Rel c (entryZ z e t x.1 fn.ntmps) { tmps := [Value.slice A (List.length x.1) cp].toArray ++ Array.replicate (fn.ntmps - [Value.slice A (List.length x.1) cp].toArray.size) undef, defers := [] } c.w0 μ Nm := fun z hz => by
      have hle := Nat.le_of_ble_eq_true hps
      refine ⟨?_, hnp.symm, hent.pins, rfl, ⟨rfl, rfl, rfl, Nat.le_refl _, fun _ _ _ => rfl⟩, (fun n o hn => by cases hn), (fun n o hn => by cases hn), (fun n n' o o' hn => by cases hn), fun y => ?_⟩
      · show ([Value.slice A (List.length x.1) cp].toArray ++ Array.replicate (fn.ntmps - [Value.slice A (List.length x.1) cp].toArray.size) undef).size = fn.ntmps
        simp; omega
      · refine slotsOf_rel (fun y => ([Value.slice A (List.length x.1) cp].toArray ++ Array.replicate (fn.ntmps - [Value.slice A (List.length x.1) cp].toArray.size) undef).getD y undef) _ [Value.slice A (List.length x.1) cp] 0 ?_ (fun j hj => ?_) y
        · simp only [VRels, VRel, and_true]
          refine ⟨Kd.V_mono hV (fun k hk => ⟨hk.1, fun n o hn => by cases hn⟩), A, _, _, rfl, hz⟩
        · simp only [Nat.zero_add]
          rw [Array.getD_eq_getD_getElem?, Array.getElem?_append_left (by simpa using hj)]
          simp [List.getD_eq_getElem?_getD]
    have hno : ∀ n, Nm n → n < 0 := fun n hn => hent.bound n hn
    cases hz : A.isNone with
    | true =>
      have hA : A = none := by cases A <;> first | rfl | cases hz
      subst hA
      have hnil := nil_V hV
      have := evalS_ok hE hmix (owed_just C _ _ _ _ (hj k)).1 (h1 k x.1) hent.np rfl (hrel true rfl) hno
      rw [hnil]
      rw [hnil] at this
      exact this
    | false =>
      have h3 := h2 k x.1
      rw [lenL_eq] at hlim
      rw [if_pos (by rw [Nat.zero_add]; exact hlim)] at h3
      exact evalS_ok hE hmix (owed_just C _ _ _ _ (hj k)).1 h3 hent.np rfl (hrel false hz) hno
end
end Go.Proofs.Ytinopkpnlibopaa.Ab
