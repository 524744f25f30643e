import Derived.Test.YtjemccmhbjfnaaaGreatPbC
import Derived.Test.YtjemccmhbjfnaaaGreatQZAbY
import Derived.KernelRfl
/- The law CallFlags holds: whatever it is given, it answers true. No conditions. -/
namespace Go.Proofs.YtjemccmhbjfnaaaGreat.callFlags
open Go.ChangeShapes Go.WideShapes Go.ChangeAt Go.RowKit Go.Proofs.YtjemccmhbjfnaaaGreat.Ab
set_option linter.unusedVariables false
set_option maxRecDepth 1000000
theorem own : ownKnob Tryz.prog.godebug = none := by kernel_rfl
theorem laidOut : laidOutB Tryz.prog = true := by kernel_rfl
theorem lifted (os : Os) (started : os.Started) (H : Type) (enc : TypeId × Value → H) :
    ReturnsInHanded {} Tryz.checked os 5 .any (Rows.callFlagsSpec.pre6 enc Tryz.prog Tryz.f5 Rows.callFlagsRow.domain false) (Rows.callFlagsSpec.post enc Tryz.prog Tryz.f5 false true false false) := by
  refine returnsInHanded_of_change_sized (C := Tryz.checked) own started (by kernel_rfl) Tryz.func5
    (ChangeSpec.witness6 (enc := enc) (C := Tryz.checked) false ⟨#[], #[.slice none 0 0], []⟩ 12 (by kernel_rfl) (by kernel_rfl) (by kernel_rfl) (by kernel_rfl)) ?_
  intro W base args ds gs before hval0 hW hcnd hsz0 _
  have hval : ∀ (j : Nat) t v, Tryz.f5.params[j]? = some t → args[j]? = some v → Value.okWide Tryz.prog W .any base t v := hval0
  have hW' := hW
  obtain ⟨p, q, hA0, hV, rfl, hfz, hnd⟩ := hW
  have hA : DataW.TrodAll enc Tryz.prog W 0 (fun _ => true) true Tryz.f5.params.toList args.toList ds p := hA0
  rw [Tryz.params5] at hA hval
  obtain ⟨v0, vs0, d0, ds0, p0, q0, hargs, rfl, rfl, h0, r0⟩ := trodAll_cons hA
  obtain ⟨rfl, rfl, rfl⟩ := trodAll_nil r0
  obtain rfl : args = #[v0] := by cases args; simp_all
  obtain ⟨rfl, rfl⟩ := trodVars_none hV
  obtain ⟨x0, w0, g0⟩ := open_par (t := (.sl 61 (.pair (.int .u8) (.int .u8)))) (agg := false) (d := 3) (by kernel_rfl) (by kernel_rfl) (hval 0 60 v0 rfl rfl) h0
  obtain ⟨k, hk⟩ := callFlags_law x0 w0
  have hP : ∀ p ∈ F5.ps, ∃ v, p = .val v := fun p hp => by
    simp only [F5, List.mem_cons, List.not_mem_nil, or_false] at hp
    rcases hp with rfl <;> exact ⟨_, rfl⟩
  refine (true_walk ok5 rfl hP (k := k) (x := (x0, ())) (m := ()) hk (W := W) (args := [v0]) (by simp only [inP, VRels]; exact ⟨g0, trivial⟩)).mono fun e W' ⟨he, bel⟩ => ?_
  subst he
  exact ⟨_, rfl, _, _, _, [], _, [], hW', trodAll_mk1 (shut_bool Tryz.underlying4 _), (trodAll_cons_mk (shut_par laidOut (by kernel_rfl) (of_decide_eq_true (by kernel_rfl)) h0 bel) trodAll_mk0), rfl, bel.frame _, fun h => by cases h⟩
theorem over : Rows.callFlagsRow.holds Tryz.pinned (OpenSpec.ofChange Rows.callFlagsSpec) :=
  OpenClaim.holds_of_wide 5 Tryz.f5 rfl rfl rfl rfl rfl rfl rfl ⟨rfl, rfl, rfl, rfl, rfl⟩ rfl rfl rfl rfl rfl (by kernel_rfl) Tryz.func5 (by kernel_rfl)
    (of_decide_eq_true (by kernel_rfl)) (by unfold Func.isWrapper; first | (rw [if_pos (by decide +kernel)]; kernel_rfl) | (rw [if_neg (by decide +kernel)]; exact ⟨rfl, rfl⟩))
    (fun os started H enc _ => lifted os started H enc)
theorem proved : Rows.CallFlagsSaid := over
#print axioms proved
end Go.Proofs.YtjemccmhbjfnaaaGreat.callFlags
namespace Go.Proofs.YtjemccmhbjfnaaaGreat
/-- The row, under a short name, for the claim. -/
theorem callFlags_holds : Rows.CallFlagsSaid := callFlags.proved
end Go.Proofs.YtjemccmhbjfnaaaGreat
