import Derived.Test.YtinopkpnlibopaaAbLib
import Derived.Test.YtinopkpnlibopaaRows
import Derived.WalkKit
import Derived.ProofKit
import Derived.OpenShut
import Derived.ShutString
import Derived.ChangeOld
import Derived.Below
import Derived.SizedLaws
/- From a contract to a row: a law of plain data that answers true. -/
set_option linter.unusedVariables false
set_option linter.unusedSimpArgs false
namespace Go.Proofs.Ytinopkpnlibopaa.Ab
open Go.ChangeShapes Go.WideShapes Go.ChangeAt Go.RowKit

section
variable {P : Program} {f : FuncId}

theorem inP_vals : ∀ (ps : List PT), pinsN ps = 0 → (∀ p ∈ ps, ∃ v, p = .val v) → ∀ (x : AD ps) (j b : Nat), (inP ps x j b).2 = ([], b)
  | [], _, _, _, _, _ => rfl
  | .val v :: ps, h, hp, x, j, b => by
    have := inP_vals ps (by simpa [pinsN] using h) (fun p hm => hp p (List.mem_cons_of_mem _ hm)) x.2 j b
    simp only [inP]
    generalize inP ps x.2 j b = q at this ⊢
    obtain ⟨q1, q2, q3⟩ := q
    simp only [Prod.mk.injEq] at this ⊢
    exact this
  | .pv p :: ps, _, hp, _, _, _ => by obtain ⟨v, h⟩ := hp _ List.mem_cons_self; cases h
  | .gv p :: ps, _, hp, _, _, _ => by obtain ⟨v, h⟩ := hp _ List.mem_cons_self; cases h
  | .mbox _ _ :: ps, _, hp, _, _, _ => by obtain ⟨v, h⟩ := hp _ List.mem_cons_self; cases h
  | .mrow _ _ :: ps, _, hp, _, _, _ => by obtain ⟨v, h⟩ := hp _ List.mem_cons_self; cases h
  | .give _ _ :: ps, _, hp, _, _, _ => by obtain ⟨v, h⟩ := hp _ List.mem_cons_self; cases h

/-- A function of plain data that answers true. -/
theorem true_walk {ps : List PT} {o : Bool} {sem : Nat → AD ps → Option (RD [.val ⟨false, .bool, o⟩] × MD ps)} (hok : FnOK P f ⟨ps, [.val ⟨false, .bool, o⟩], sem⟩) (h0 : pinsN ps = 0) (hp : ∀ p ∈ ps, ∃ v, p = .val v)
    {k : Nat} {x : AD ps} {m : MD ps} (hx : sem k x = some ((true, ()), m)) {W : World} {args : List Value}
    (hv : VRels (fun _ => undef) (fun _ => False) (fun _ => True) W (inP ps x 0 0).1 args) :
    Calls P f args.toArray W fun e w' => e = .returned (.bool true) ∧ Below W.heap.size W w' := by
  have hin := inP_vals ps h0 hp x 0 0
  let c : Ctx := { okA := fun _ => True, X := fun _ => False, w0 := W, np := 0, lent := fun _ => undef }
  have hst : ∀ k, True → stab c (fun _ => undef) (fun _ => none) k := fun k _ => ⟨by
    by_cases h : k < W.heap.size
    · exact .inl ⟨trivial, h⟩
    · exact .inr (.inl (Nat.le_of_not_lt h)), fun n o hn => by cases hn⟩
  have hmem : (inP ps x 0 (pinsN ps)).2.1 = [] := by rw [h0, hin]
  refine (hok.calls k x _ hx c args (fun _ => undef) (fun _ => False) ⟨h0.symm, fun j hj => absurd hj (Nat.not_lt_zero j), fun n hn => hn.elim, fun n o hn => by (rw [hmem] at hn; cases hn), fun n o hn => by (rw [hmem] at hn; cases hn), fun n n' o o' hn => by (rw [hmem] at hn; cases hn), ?_⟩).mono fun e w' h => ?_
  · rw [hmem, h0]
    exact VRels_step (fun _ _ _ => rfl) (fun k hk _ => hst k hk) (fun _ _ => rfl) (fun _ h => h) _ _ hv
  · obtain ⟨v, he, hb, hres⟩ := h
    obtain ⟨μ, Nm, hat⟩ := hres 0 (fun _ => 0) (fun j hj => absurd hj (Nat.not_lt_zero j)) (fun i j hi => absurd hi (Nat.not_lt_zero i))
    have h1 := hat.val
    simp only [impR, impC, wrapA, nthA, tupA, VRel] at h1
    rw [h1] at he
    exact ⟨he, hb.none⟩
end
end Go.Proofs.Ytinopkpnlibopaa.Ab
