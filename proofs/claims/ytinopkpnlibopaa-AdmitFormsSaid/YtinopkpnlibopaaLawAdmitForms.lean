import Derived.Test.YtinopkpnlibopaaPbC
import Derived.Test.YtinopkpnlibopaaQZAbQ
import Derived.KernelRfl
/- The law AdmitForms holds: whatever is done, it answers true. No conditions. -/
namespace Go.Proofs.Ytinopkpnlibopaa.admitForms
open Go.ChangeShapes Go.WideShapes Go.ChangeAt Go.RowKit Go.Proofs.Ytinopkpnlibopaa.Ab
set_option linter.unusedVariables false
set_option maxRecDepth 1000000
theorem value : S11 20000 = some ((true, ()), ()) := admitForms_pure (Nat.le_refl _)
theorem own : ownKnob Try.prog.godebug = none := by kernel_rfl
theorem lifted (os : Os) (started : os.Started) (H : Type) (enc : TypeId × Value → H) :
    ReturnsInHanded {} Try.checked os 11 .any (Rows.admitFormsSpec.pre6 enc Try.prog Try.f11 Rows.admitFormsRow.domain false) (Rows.admitFormsSpec.post enc Try.prog Try.f11 false true false false) := by
  refine returnsInHanded_of_change_sized (C := Try.checked) own started (by kernel_rfl) Try.func11
    (ChangeSpec.witness6 (enc := enc) (C := Try.checked) false ⟨#[], #[], []⟩ 8 (by kernel_rfl) (by kernel_rfl) (by kernel_rfl) (by kernel_rfl)) ?_
  intro W base args ds gs before hval0 hW hcnd hsz0 _
  have hW' := hW
  obtain ⟨p, q, hA0, hV, rfl, hfz, hnd⟩ := hW
  have hA : DataW.TrodAll enc Try.prog W 0 (fun _ => true) true Try.f11.params.toList args.toList ds p := hA0
  rw [Try.params11] at hA
  obtain ⟨rfl, rfl, rfl⟩ := trodAll_none hA
  obtain ⟨rfl, rfl⟩ := trodVars_none hV
  have h0 : ∀ p ∈ P11, ∃ v, p = .val v := fun p hp => by cases hp
  refine (true_walk ok11 rfl h0 (k := 20000) (x := ()) (m := ()) value (W := W) (args := []) (by simp only [inP, VRels])).mono fun e W' ⟨he, bel⟩ => ?_
  subst he
  exact ⟨_, rfl, _, _, _, [], _, [], hW', trodAll_mk1 (shut_bool Try.underlying4 _), trodAll_mk0, rfl, bel.frame _, fun h => by cases h⟩
theorem over : Rows.admitFormsRow.holds Try.pinned (OpenSpec.ofChange Rows.admitFormsSpec) :=
  OpenClaim.holds_of_wide 11 Try.f11 rfl rfl rfl rfl rfl rfl rfl ⟨rfl, rfl, rfl, rfl, rfl⟩ rfl rfl rfl rfl rfl (by kernel_rfl) Try.func11 (by kernel_rfl)
    (of_decide_eq_true (by kernel_rfl)) (by unfold Func.isWrapper; first | (rw [if_pos (by decide +kernel)]; kernel_rfl) | (rw [if_neg (by decide +kernel)]; exact ⟨rfl, rfl⟩))
    (fun os started H enc _ => lifted os started H enc)
theorem proved : Rows.AdmitFormsSaid := over
#print axioms proved
end Go.Proofs.Ytinopkpnlibopaa.admitForms
namespace Go.Proofs.Ytinopkpnlibopaa
/-- The row, under a short name, for the claim. -/
theorem admitForms_holds : Rows.AdmitFormsSaid := admitForms.proved
end Go.Proofs.Ytinopkpnlibopaa
