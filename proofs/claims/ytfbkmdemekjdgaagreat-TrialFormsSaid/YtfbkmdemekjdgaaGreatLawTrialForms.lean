import Derived.Test.YtfbkmdemekjdgaaGreatPbC
import Derived.Test.YtfbkmdemekjdgaaGreatQZAbV
import Derived.KernelRfl
/- The law TrialForms holds: whatever is done, it answers true. No conditions. -/
namespace Go.Proofs.YtfbkmdemekjdgaaGreat.trialForms
open Go.ChangeShapes Go.WideShapes Go.ChangeAt Go.RowKit Go.Proofs.YtfbkmdemekjdgaaGreat.Ab
set_option linter.unusedVariables false
set_option maxRecDepth 1000000
theorem value : S3 20000 = some ((true, ()), ()) := trialForms_pure (Nat.le_refl _)
theorem own : ownKnob Tryz.prog.godebug = none := by kernel_rfl
theorem lifted (os : Os) (started : os.Started) (H : Type) (enc : TypeId × Value → H) :
    ReturnsInHanded {} Tryz.checked os 3 .any (Rows.trialFormsSpec.pre6 enc Tryz.prog Tryz.f3 Rows.trialFormsRow.domain false) (Rows.trialFormsSpec.post enc Tryz.prog Tryz.f3 false true false false) := by
  refine returnsInHanded_of_change_sized (C := Tryz.checked) own started (by kernel_rfl) Tryz.func3
    (ChangeSpec.witness6 (enc := enc) (C := Tryz.checked) false ⟨#[], #[], []⟩ 8 (by kernel_rfl) (by kernel_rfl) (by kernel_rfl) (by kernel_rfl)) ?_
  intro W base args ds gs before hval0 hW hcnd hsz0 _
  have hW' := hW
  obtain ⟨p, q, hA0, hV, rfl, hfz, hnd⟩ := hW
  have hA : DataW.TrodAll enc Tryz.prog W 0 (fun _ => true) true Tryz.f3.params.toList args.toList ds p := hA0
  rw [Tryz.params3] at hA
  obtain ⟨rfl, rfl, rfl⟩ := trodAll_none hA
  obtain ⟨rfl, rfl⟩ := trodVars_none hV
  have h0 : ∀ p ∈ F3.ps, ∃ v, p = .val v := fun p hp => by have h : p ∈ ([] : List PT) := hp; cases h
  refine (true_walk ok3 rfl h0 (k := 20000) (x := ()) (m := ()) value (W := W) (args := []) (by simp only [inP, VRels])).mono fun e W' ⟨he, bel⟩ => ?_
  subst he
  exact ⟨_, rfl, _, _, _, [], _, [], hW', trodAll_mk1 (shut_bool Tryz.underlying4 _), trodAll_mk0, rfl, bel.frame _, fun h => by cases h⟩
theorem over : Rows.trialFormsRow.holds Tryz.pinned (OpenSpec.ofChange Rows.trialFormsSpec) :=
  OpenClaim.holds_of_wide 3 Tryz.f3 rfl rfl rfl rfl rfl rfl rfl ⟨rfl, rfl, rfl, rfl, rfl⟩ rfl rfl rfl rfl rfl (by kernel_rfl) Tryz.func3 (by kernel_rfl)
    (of_decide_eq_true (by kernel_rfl)) (by unfold Func.isWrapper; first | (rw [if_pos (by decide +kernel)]; kernel_rfl) | (rw [if_neg (by decide +kernel)]; exact ⟨rfl, rfl⟩))
    (fun os started H enc _ => lifted os started H enc)
theorem proved : Rows.TrialFormsSaid := over
#print axioms proved
end Go.Proofs.YtfbkmdemekjdgaaGreat.trialForms
namespace Go.Proofs.YtfbkmdemekjdgaaGreat
/-- The row, under a short name, for the claim. -/
theorem trialForms_holds : Rows.TrialFormsSaid := trialForms.proved
end Go.Proofs.YtfbkmdemekjdgaaGreat
