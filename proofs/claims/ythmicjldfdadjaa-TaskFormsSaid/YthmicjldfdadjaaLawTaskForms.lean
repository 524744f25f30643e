import Derived.Test.YthmicjldfdadjaaAbRow
import Derived.Test.YthmicjldfdadjaaAbF2
import Derived.KernelRfl
/- The law TaskForms holds: whatever is done, it answers true. No conditions. -/
namespace Go.Proofs.Ythmicjldfdadjaa.taskForms
open Go.ChangeShapes Go.WideShapes Go.ChangeAt Go.RowKit Go.Proofs.Ythmicjldfdadjaa.Ab
set_option linter.unusedVariables false
set_option maxRecDepth 1000000
theorem value : S4 1000 = some ((true, ()), ()) := by kernel_rfl
theorem own : ownKnob Try.prog.godebug = none := by kernel_rfl
theorem lifted (os : Os) (started : os.Started) (H : Type) (enc : TypeId × Value → H) :
    ReturnsInHanded {} Try.checked os 4 .any (Rows.taskFormsSpec.pre6 enc Try.prog Try.f4 Rows.taskFormsRow.domain false) (Rows.taskFormsSpec.post enc Try.prog Try.f4 false true false false) := by
  refine returnsInHanded_of_change_sized (C := Try.checked) own started (by kernel_rfl) Try.func4
    (ChangeSpec.witness6 (enc := enc) (C := Try.checked) false ⟨#[], #[], []⟩ 8 (by kernel_rfl) (by kernel_rfl) (by kernel_rfl) (by kernel_rfl)) ?_
  intro W base args ds gs before hval0 hW hcnd hsz0 _
  have hW' := hW
  obtain ⟨p, q, hA0, hV, rfl, hfz, hnd⟩ := hW
  have hA : DataW.TrodAll enc Try.prog W 0 (fun _ => true) true Try.f4.params.toList args.toList ds p := hA0
  rw [Try.params4] at hA
  obtain ⟨rfl, rfl, rfl⟩ := trodAll_none hA
  obtain ⟨rfl, rfl⟩ := trodVars_none hV
  have h0 : ∀ p ∈ P4, ∃ v, p = .val v := fun p hp => by cases hp
  refine (true_walk ok4 rfl h0 (k := 1000) (x := ()) (m := ()) value (W := W) (args := []) (by simp only [inP, VRels])).mono fun e W' ⟨he, bel⟩ => ?_
  subst he
  exact ⟨_, rfl, _, _, _, [], _, [], hW', trodAll_mk1 (shut_bool Try.underlying4 _), trodAll_mk0, rfl, bel.frame _, fun h => by cases h⟩
theorem over : Rows.taskFormsRow.holds Try.pinned (OpenSpec.ofChange Rows.taskFormsSpec) :=
  OpenClaim.holds_of_wide 4 Try.f4 rfl rfl rfl rfl rfl rfl rfl ⟨rfl, rfl, rfl, rfl, rfl⟩ rfl rfl rfl rfl rfl (by kernel_rfl) Try.func4 (by kernel_rfl)
    (of_decide_eq_true (by kernel_rfl)) (by unfold Func.isWrapper; first | (rw [if_pos (by decide +kernel)]; kernel_rfl) | (rw [if_neg (by decide +kernel)]; exact ⟨rfl, rfl⟩))
    (fun os started H enc _ => lifted os started H enc)
theorem proved : Rows.TaskFormsSaid := over
#print axioms proved
end Go.Proofs.Ythmicjldfdadjaa.taskForms
namespace Go.Proofs.Ythmicjldfdadjaa
/-- The row, under a short name, for the claim. -/
theorem taskForms_holds : Rows.TaskFormsSaid := taskForms.proved
end Go.Proofs.Ythmicjldfdadjaa
