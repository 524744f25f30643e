import Derived.Test.YtmmagcjlfcicfaaGreatPbC
import Derived.Test.YtmmagcjlfcicfaaGreatQZAbK
import Derived.KernelRfl
/- The law KernTicks holds: whatever it is given, it answers true. No conditions. -/
namespace Go.Proofs.YtmmagcjlfcicfaaGreat.kernTicks
open Go.ChangeShapes Go.WideShapes Go.ChangeAt Go.RowKit Go.Proofs.YtmmagcjlfcicfaaGreat.Ab
set_option linter.unusedVariables false
set_option maxRecDepth 1000000
theorem own : ownKnob Tryz.prog.godebug = none := by kernel_rfl
theorem laidOut : laidOutB Tryz.prog = true := by kernel_rfl
theorem lifted (os : Os) (started : os.Started) (H : Type) (enc : TypeId × Value → H) :
    ReturnsInHanded {} Tryz.checked os 3 .any (Rows.kernTicksSpec.pre6 enc Tryz.prog Tryz.f3 Rows.kernTicksRow.domain false) (Rows.kernTicksSpec.post enc Tryz.prog Tryz.f3 false true false false) := by
  refine returnsInHanded_of_change_sized (C := Tryz.checked) own started (by kernel_rfl) Tryz.func3
    (ChangeSpec.witness6 (enc := enc) (C := Tryz.checked) false ⟨#[], #[.slice none 0 0, .slice none 0 0, .int .u8 0], []⟩ 12 (by kernel_rfl) (by kernel_rfl) (by kernel_rfl) (by kernel_rfl)) ?_
  intro W base args ds gs before hval0 hW hcnd hsz0 _
  have hval : ∀ (j : Nat) t v, Tryz.f3.params[j]? = some t → args[j]? = some v → Value.okWide Tryz.prog W .any base t v := hval0
  have hW' := hW
  obtain ⟨p, q, hA0, hV, rfl, hfz, hnd⟩ := hW
  have hA : DataW.TrodAll enc Tryz.prog W 0 (fun _ => true) true Tryz.f3.params.toList args.toList ds p := hA0
  rw [Tryz.params3] at hA hval
  obtain ⟨v0, vs0, d0, ds0, p0, q0, hargs, rfl, rfl, h0, r0⟩ := trodAll_cons hA
  obtain ⟨v1, vs1, d1, ds1, p1, q1, rfl, rfl, rfl, h1, r1⟩ := trodAll_cons r0
  obtain ⟨v2, vs2, d2, ds2, p2, q2, rfl, rfl, rfl, h2, r2⟩ := trodAll_cons r1
  obtain ⟨rfl, rfl, rfl⟩ := trodAll_nil r2
  obtain rfl : args = #[v0, v1, v2] := by cases args; simp_all
  obtain ⟨rfl, rfl⟩ := trodVars_none hV
  obtain ⟨x0, w0, g0⟩ := open_par (t := (.sl 5 (.int .u8))) (agg := false) (d := 2) (by kernel_rfl) (by kernel_rfl) (hval 0 22 v0 rfl rfl) h0
  obtain ⟨x1, w1, g1⟩ := open_par (t := (.sl 5 (.int .u8))) (agg := false) (d := 2) (by kernel_rfl) (by kernel_rfl) (hval 1 22 v1 rfl rfl) h1
  obtain ⟨x2, w2, g2⟩ := open_par (t := (.int .u8)) (agg := false) (d := 1) (by kernel_rfl) (by kernel_rfl) (hval 2 5 v2 rfl rfl) h2
  obtain ⟨k, hk⟩ := kernTicks_law x0 x1 x2 w0 w1 w2
  have hP : ∀ p ∈ F3.ps, ∃ v, p = .val v := fun p hp => by
    simp only [F3, List.mem_cons, List.not_mem_nil, or_false] at hp
    rcases hp with rfl | rfl | rfl <;> exact ⟨_, rfl⟩
  refine (true_walk ok3 rfl hP (k := k) (x := (x0, (x1, (x2, ())))) (m := ()) hk (W := W) (args := [v0, v1, v2]) (by simp only [inP, VRels]; exact ⟨g0, g1, g2, trivial⟩)).mono fun e W' ⟨he, bel⟩ => ?_
  subst he
  exact ⟨_, rfl, _, _, _, [], _, [], hW', trodAll_mk1 (shut_bool Tryz.underlying4 _), (trodAll_cons_mk (shut_par laidOut (by kernel_rfl) (of_decide_eq_true (by kernel_rfl)) h0 bel) (trodAll_cons_mk (shut_par laidOut (by kernel_rfl) (of_decide_eq_true (by kernel_rfl)) h1 bel) (trodAll_cons_mk (shut_par laidOut (by kernel_rfl) (of_decide_eq_true (by kernel_rfl)) h2 bel) trodAll_mk0))), rfl, bel.frame _, fun h => by cases h⟩
theorem cInp : (Rows.kernTicksRow.inPlace == Tryz.pinned.checked.prog.inPlace 3) = true := by kernel_rfl
theorem cUnf : (Rows.kernTicksRow.unfollowed == Tryz.pinned.checked.prog.unfollowed 3) = true := by kernel_rfl
theorem cRec : (Rows.kernTicksRow.recurses == Tryz.pinned.checked.prog.recurses 3) = true := by kernel_rfl
theorem cNam : (Rows.kernTicksRow.named == Tryz.pinned.checked.prog.varsNamed 3) = true := by kernel_rfl
theorem closed : joinedFacts Tryz.pinned.checked.prog 3 Tryz.f3 Rows.kernTicksSpec Rows.kernTicksRow = true := by
  unfold joinedFacts
  rw [cInp, cUnf, cRec, cNam]
  kernel_rfl
theorem over : Rows.kernTicksRow.holds Tryz.pinned (OpenSpec.ofChange Rows.kernTicksSpec) :=
  OpenClaim.holds_of_wide 3 Tryz.f3 rfl rfl rfl rfl rfl rfl rfl ⟨rfl, rfl, rfl, rfl, rfl⟩ rfl rfl rfl rfl rfl (by kernel_rfl) Tryz.func3 closed
    (of_decide_eq_true (by kernel_rfl)) (by unfold Func.isWrapper; first | (rw [if_pos (by decide +kernel)]; kernel_rfl) | (rw [if_neg (by decide +kernel)]; exact ⟨rfl, rfl⟩))
    (fun os started H enc _ => lifted os started H enc)
theorem proved : Rows.KernTicksSaid := over
#print axioms proved
end Go.Proofs.YtmmagcjlfcicfaaGreat.kernTicks
namespace Go.Proofs.YtmmagcjlfcicfaaGreat
/-- The row, under a short name, for the claim. -/
theorem kernTicks_holds : Rows.KernTicksSaid := kernTicks.proved
end Go.Proofs.YtmmagcjlfcicfaaGreat
