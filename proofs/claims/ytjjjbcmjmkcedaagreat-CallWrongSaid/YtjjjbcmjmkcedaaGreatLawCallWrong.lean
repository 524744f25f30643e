import Derived.Test.YtjjjbcmjmkcedaaGreatPbC
import Derived.Test.YtjjjbcmjmkcedaaGreatQZAbU
import Derived.KernelRfl
/- The law CallWrong holds: whatever it is given, it answers true. No conditions. -/
namespace Go.Proofs.YtjjjbcmjmkcedaaGreat.callWrong
open Go.ChangeShapes Go.WideShapes Go.ChangeAt Go.RowKit Go.Proofs.YtjjjbcmjmkcedaaGreat.Ab
set_option linter.unusedVariables false
set_option maxRecDepth 1000000
theorem own : ownKnob Tryz.prog.godebug = none := by kernel_rfl
theorem laidOut : laidOutB Tryz.prog = true := by kernel_rfl
theorem lifted (os : Os) (started : os.Started) (H : Type) (enc : TypeId × Value → H) :
    ReturnsInHanded {} Tryz.checked os 6 .any (Rows.callWrongSpec.pre6 enc Tryz.prog Tryz.f6 Rows.callWrongRow.domain false) (Rows.callWrongSpec.post enc Tryz.prog Tryz.f6 false true false false) := by
  refine returnsInHanded_of_change_sized (C := Tryz.checked) own started (by kernel_rfl) Tryz.func6
    (ChangeSpec.witness6 (enc := enc) (C := Tryz.checked) false ⟨#[], #[.slice none 0 0, .slice none 0 0, .slice none 0 0], []⟩ 12 (by kernel_rfl) (by kernel_rfl) (by kernel_rfl) (by kernel_rfl)) ?_
  intro W base args ds gs before hval0 hW hcnd hsz0 _
  have hval : ∀ (j : Nat) t v, Tryz.f6.params[j]? = some t → args[j]? = some v → Value.okWide Tryz.prog W .any base t v := hval0
  have hW' := hW
  obtain ⟨p, q, hA0, hV, rfl, hfz, hnd⟩ := hW
  have hA : DataW.TrodAll enc Tryz.prog W 0 (fun _ => true) true Tryz.f6.params.toList args.toList ds p := hA0
  rw [Tryz.params6] at hA hval
  obtain ⟨v0, vs0, d0, ds0, p0, q0, hargs, rfl, rfl, h0, r0⟩ := trodAll_cons hA
  obtain ⟨v1, vs1, d1, ds1, p1, q1, rfl, rfl, rfl, h1, r1⟩ := trodAll_cons r0
  obtain ⟨v2, vs2, d2, ds2, p2, q2, rfl, rfl, rfl, h2, r2⟩ := trodAll_cons r1
  obtain ⟨rfl, rfl, rfl⟩ := trodAll_nil r2
  obtain rfl : args = #[v0, v1, v2] := by cases args; simp_all
  obtain ⟨rfl, rfl⟩ := trodVars_none hV
  obtain ⟨x0, w0, g0⟩ := open_par (t := (.sl 5 (.int .u8))) (agg := false) (d := 2) (by kernel_rfl) (by kernel_rfl) (hval 0 22 v0 rfl rfl) h0
  obtain ⟨x1, w1, g1⟩ := open_par (t := (.sl 5 (.int .u8))) (agg := false) (d := 2) (by kernel_rfl) (by kernel_rfl) (hval 1 22 v1 rfl rfl) h1
  obtain ⟨x2, w2, g2⟩ := open_par (t := (.sl 98 (.pair (.int .i64) (.pair (.pair (.int .i64) (.pair (.int .i64) (.pair (.int .i64) (.pair (.sl 127 (.pair (.int .i64) (.pair (.int .i64) (.pair (.int .i64) (.int .i64))))) (.pair (.sl 127 (.pair (.int .i64) (.pair (.int .i64) (.pair (.int .i64) (.int .i64))))) (.sl 127 (.pair (.int .i64) (.pair (.int .i64) (.pair (.int .i64) (.int .i64)))))))))) (.pair (.pair (.int .i64) (.int .i64)) (.pair (.int .i64) (.pair (.int .i64) (.int .u32)))))))) (agg := false) (d := 6) (by kernel_rfl) (by kernel_rfl) (hval 2 89 v2 rfl rfl) h2
  obtain ⟨k, hk⟩ := callWrong_law x0 x1 x2 w0 w1 w2
  have hP : ∀ p ∈ F6.ps, ∃ v, p = .val v := fun p hp => by
    simp only [F6, List.mem_cons, List.not_mem_nil, or_false] at hp
    rcases hp with rfl | rfl | rfl <;> exact ⟨_, rfl⟩
  refine (true_walk ok6 rfl hP (k := k) (x := (x0, (x1, (x2, ())))) (m := ()) hk (W := W) (args := [v0, v1, v2]) (by simp only [inP, VRels]; exact ⟨g0, g1, g2, trivial⟩)).mono fun e W' ⟨he, bel⟩ => ?_
  subst he
  exact ⟨_, rfl, _, _, _, [], _, [], hW', trodAll_mk1 (shut_bool Tryz.underlying4 _), (trodAll_cons_mk (shut_par laidOut (by kernel_rfl) (of_decide_eq_true (by kernel_rfl)) h0 bel) (trodAll_cons_mk (shut_par laidOut (by kernel_rfl) (of_decide_eq_true (by kernel_rfl)) h1 bel) (trodAll_cons_mk (shut_par laidOut (by kernel_rfl) (of_decide_eq_true (by kernel_rfl)) h2 bel) trodAll_mk0))), rfl, bel.frame _, fun h => by cases h⟩
theorem cInp : (Rows.callWrongRow.inPlace == Tryz.pinned.checked.prog.inPlace 6) = true := by kernel_rfl
theorem cUnf : (Rows.callWrongRow.unfollowed == Tryz.pinned.checked.prog.unfollowed 6) = true := by kernel_rfl
theorem cRec : (Rows.callWrongRow.recurses == Tryz.pinned.checked.prog.recurses 6) = true := by kernel_rfl
theorem cNam : (Rows.callWrongRow.named == Tryz.pinned.checked.prog.varsNamed 6) = true := by kernel_rfl
theorem closed : joinedFacts Tryz.pinned.checked.prog 6 Tryz.f6 Rows.callWrongSpec Rows.callWrongRow = true := by
  unfold joinedFacts
  rw [cInp, cUnf, cRec, cNam]
  kernel_rfl
theorem over : Rows.callWrongRow.holds Tryz.pinned (OpenSpec.ofChange Rows.callWrongSpec) :=
  OpenClaim.holds_of_wide 6 Tryz.f6 rfl rfl rfl rfl rfl rfl rfl ⟨rfl, rfl, rfl, rfl, rfl⟩ rfl rfl rfl rfl rfl (by kernel_rfl) Tryz.func6 closed
    (of_decide_eq_true (by kernel_rfl)) (by unfold Func.isWrapper; first | (rw [if_pos (by decide +kernel)]; kernel_rfl) | (rw [if_neg (by decide +kernel)]; exact ⟨rfl, rfl⟩))
    (fun os started H enc _ => lifted os started H enc)
theorem proved : Rows.CallWrongSaid := over
#print axioms proved
end Go.Proofs.YtjjjbcmjmkcedaaGreat.callWrong
namespace Go.Proofs.YtjjjbcmjmkcedaaGreat
/-- The row, under a short name, for the claim. -/
theorem callWrong_holds : Rows.CallWrongSaid := callWrong.proved
end Go.Proofs.YtjjjbcmjmkcedaaGreat
