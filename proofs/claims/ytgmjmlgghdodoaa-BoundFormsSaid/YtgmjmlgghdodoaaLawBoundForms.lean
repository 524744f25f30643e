import Derived.Test.YtgmjmlgghdodoaaAbRow
import Derived.Test.YtgmjmlgghdodoaaAbF3
import Derived.KernelRfl
/- The law BoundForms holds: whatever is done, it answers true. No conditions. -/
namespace Go.Proofs.Ytgmjmlgghdodoaa.boundForms
open Go.ChangeShapes Go.WideShapes Go.ChangeAt Go.RowKit Go.Proofs.Ytgmjmlgghdodoaa.Ab
set_option linter.unusedVariables false
set_option maxRecDepth 1000000
theorem value : S6 1000 = some ((true, ()), ()) := by kernel_rfl
theorem own : ownKnob Try.prog.godebug = none := by kernel_rfl
theorem lifted (os : Os) (started : os.Started) (H : Type) (enc : TypeId × Value → H) :
    ReturnsInHanded {} Try.checked os 6 .any (Rows.boundFormsSpec.pre6 enc Try.prog Try.f6 Rows.boundFormsRow.domain false) (Rows.boundFormsSpec.post enc Try.prog Try.f6 false true false false) := by
  refine returnsInHanded_of_change_sized (C := Try.checked) own started (by kernel_rfl) Try.func6
    (ChangeSpec.witness6 (enc := enc) (C := Try.checked) false ⟨#[], #[], []⟩ 8 (by kernel_rfl) (by kernel_rfl) (by kernel_rfl) (by kernel_rfl)) ?_
  intro W base args ds gs before hval0 hW hcnd hsz0 _
  have hW' := hW
  obtain ⟨p, q, hA0, hV, rfl, hfz, hnd⟩ := hW
  have hA : DataW.TrodAll enc Try.prog W 0 (fun _ => true) true Try.f6.params.toList args.toList ds p := hA0
  rw [Try.params6] at hA
  obtain ⟨rfl, rfl, rfl⟩ := trodAll_none hA
  obtain ⟨rfl, rfl⟩ := trodVars_none hV
  have h0 : ∀ p ∈ P6, ∃ v, p = .val v := fun p hp => by cases hp
  refine (true_walk ok6 rfl h0 (k := 1000) (x := ()) (m := ()) value (W := W) (args := []) (by simp only [inP, VRels])).mono fun e W' ⟨he, bel⟩ => ?_
  subst he
  exact ⟨_, rfl, _, _, _, [], _, [], hW', trodAll_mk1 (shut_bool Try.underlying4 _), trodAll_mk0, rfl, bel.frame _, fun h => by cases h⟩
theorem over : Rows.boundFormsRow.holds Try.pinned (OpenSpec.ofChange Rows.boundFormsSpec) :=
  OpenClaim.holds_of_wide 6 Try.f6 rfl rfl rfl rfl rfl rfl rfl ⟨rfl, rfl, rfl, rfl, rfl⟩ rfl rfl rfl rfl rfl (by kernel_rfl) Try.func6 (by kernel_rfl)
    (of_decide_eq_true (by kernel_rfl)) (by unfold Func.isWrapper; first | (rw [if_pos (by decide +kernel)]; kernel_rfl) | (rw [if_neg (by decide +kernel)]; exact ⟨rfl, rfl⟩))
    (fun os started H enc _ => lifted os started H enc)
theorem proved : Rows.BoundFormsSaid := over
#print axioms proved
end Go.Proofs.Ytgmjmlgghdodoaa.boundForms
namespace Go.Proofs.Ytgmjmlgghdodoaa
/-- The row, under a short name, for the claim. -/
theorem boundForms_holds : Rows.BoundFormsSaid := boundForms.proved
end Go.Proofs.Ytgmjmlgghdodoaa
