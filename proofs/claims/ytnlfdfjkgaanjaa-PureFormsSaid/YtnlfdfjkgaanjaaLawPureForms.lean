import Derived.Test.YtnlfdfjkgaanjaaAbRow
import Derived.Test.YtnlfdfjkgaanjaaAbF1
import Derived.KernelRfl
/- The law PureForms holds: whatever is done, it answers true. No conditions. -/
namespace Go.Proofs.Ytnlfdfjkgaanjaa.pureForms
open Go.ChangeShapes Go.WideShapes Go.ChangeAt Go.RowKit Go.Proofs.Ytnlfdfjkgaanjaa.Ab
set_option linter.unusedVariables false
set_option maxRecDepth 1000000
theorem value : S5 1000 = some ((true, ()), ()) := by kernel_rfl
theorem own : ownKnob Try.prog.godebug = none := by kernel_rfl
theorem lifted (os : Os) (started : os.Started) (H : Type) (enc : TypeId × Value → H) :
    ReturnsInHanded {} Try.checked os 5 .any (Rows.pureFormsSpec.pre6 enc Try.prog Try.f5 Rows.pureFormsRow.domain false) (Rows.pureFormsSpec.post enc Try.prog Try.f5 false true false false) := by
  refine returnsInHanded_of_change_sized (C := Try.checked) own started (by kernel_rfl) Try.func5
    (ChangeSpec.witness6 (enc := enc) (C := Try.checked) false ⟨#[], #[], []⟩ 8 (by kernel_rfl) (by kernel_rfl) (by kernel_rfl) (by kernel_rfl)) ?_
  intro W base args ds gs before hval0 hW hcnd hsz0 _
  have hW' := hW
  obtain ⟨p, q, hA0, hV, rfl, hfz, hnd⟩ := hW
  have hA : DataW.TrodAll enc Try.prog W 0 (fun _ => true) true Try.f5.params.toList args.toList ds p := hA0
  rw [Try.params5] at hA
  obtain ⟨rfl, rfl, rfl⟩ := trodAll_none hA
  obtain ⟨rfl, rfl⟩ := trodVars_none hV
  have h0 : ∀ p ∈ P5, ∃ v, p = .val v := fun p hp => by cases hp
  refine (true_walk ok5 rfl h0 (k := 1000) (x := ()) (m := ()) value (W := W) (args := []) (by simp only [inP, VRels])).mono fun e W' ⟨he, bel⟩ => ?_
  subst he
  exact ⟨_, rfl, _, _, _, [], _, [], hW', trodAll_mk1 (shut_bool Try.underlying4 _), trodAll_mk0, rfl, bel.frame _, fun h => by cases h⟩
theorem over : Rows.pureFormsRow.holds Try.pinned (OpenSpec.ofChange Rows.pureFormsSpec) :=
  OpenClaim.holds_of_wide 5 Try.f5 rfl rfl rfl rfl rfl rfl rfl ⟨rfl, rfl, rfl, rfl, rfl⟩ rfl rfl rfl rfl rfl (by kernel_rfl) Try.func5 (by kernel_rfl)
    (of_decide_eq_true (by kernel_rfl)) (by unfold Func.isWrapper; first | (rw [if_pos (by decide +kernel)]; kernel_rfl) | (rw [if_neg (by decide +kernel)]; exact ⟨rfl, rfl⟩))
    (fun os started H enc _ => lifted os started H enc)
theorem proved : Rows.PureFormsSaid := over
#print axioms proved
end Go.Proofs.Ytnlfdfjkgaanjaa.pureForms
namespace Go.Proofs.Ytnlfdfjkgaanjaa
/-- The row, under a short name, for the claim. -/
theorem pureForms_holds : Rows.PureFormsSaid := pureForms.proved
end Go.Proofs.Ytnlfdfjkgaanjaa
