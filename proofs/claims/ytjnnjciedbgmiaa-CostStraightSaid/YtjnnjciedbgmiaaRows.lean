/-
  No cell of these rows narrows 'for every input' (looked for: loops, veiled, ifaces, maps, wideKeys, modest, calm, conditions, laid).
  DERIVED. THE GIVEN ROWS OF THIS SEAT. 10 by the template 'for every input the law returns true; each argument reads behind the call as it read before'; 0 by the template 'total and deterministic' (their statements: YtjnnjciedbgmiaaTotals.lean).
  GIVEN WITH THE SEED: the statements are not yours to turn. If you find one false, say at which input.
  Laid BY PROGRAM, IN A SANDBOX (cutbox-rows.mjs): the forced cells as the released guide's own fill.sh prints them over the translation be8595ebdeac3108… (all of the seat's roots in one cut). By AI agents, Wed Nov 11 2026. No macro, syntax, notation, axiom, sorry.
-/
import Derived.Test.YtjnnjciedbgmiaaChecked
import GoSem.Claim
import GoSem.ClaimJoined
import GoSem.ClaimMapViews
import Derived.JoinedTies
import Derived.KernelRfl
namespace Go.Proofs.Ytjnnjciedbgmiaa
/- THE CELL 'sum', in the pinned program and in every row, IS THE sha256 OF THE DUMP (.gsa) THAT YtjnnjciedbgmiaaProg.lean LOADS. Nothing in Lean hashes anything: it is a label: what it is worth is what the hold of that sum in a sandbox is worth. -/
noncomputable def Try.pinned : Pinned := { name := "ytjnnjciedbgmiaa", sum := "be8595ebdeac310882b12665de597a565207544d6f5d1fc305878cc4fa4b43c1", checked := Try.checked }
namespace Rows
def none {H : Type} : Left H := { results := [], args := [] }

/-- 'foliotlaw6.FormAll': WHATEVER THE INPUT: true; the input reads as it did. -/
def formAllSpec : ChangeSpec := { name := "formAll", fn := fun _ => fun
  | [d1, d2] => { results := [.lit (.bool true)], args := [d1, d2] }
  | _ => none }
def formAllRow : OpenClaim := { program := "ytjnnjciedbgmiaa", sum := "be8595ebdeac310882b12665de597a565207544d6f5d1fc305878cc4fa4b43c1", func := "foliot/foliotlaw6.FormAll", spec := "formAll", unfollowed := true, recurses := true, plainKeys := false, apart := false }
def FormAllSaid : Prop := formAllRow.holds Try.pinned (OpenSpec.ofChange formAllSpec)

/-- ITS FALSE NEIGHBOUR: 'it returns false'. Refute it at one input. -/
def formAllWrong : ChangeSpec := { name := "formAll", fn := fun _ => fun
  | [d1, d2] => { results := [.lit (.bool false)], args := [d1, d2] }
  | _ => none }
def FormAllWrongFalsely : Prop := formAllRow.holds Try.pinned (OpenSpec.ofChange formAllWrong)

/-- 'foliotlaw6.FormEnds': WHATEVER THE INPUT: true; the input reads as it did. -/
def formEndsSpec : ChangeSpec := { name := "formEnds", fn := fun _ => fun
  | [d1, d2] => { results := [.lit (.bool true)], args := [d1, d2] }
  | _ => none }
def formEndsRow : OpenClaim := { program := "ytjnnjciedbgmiaa", sum := "be8595ebdeac310882b12665de597a565207544d6f5d1fc305878cc4fa4b43c1", func := "foliot/foliotlaw6.FormEnds", spec := "formEnds", unfollowed := true, recurses := true, plainKeys := false, apart := false }
def FormEndsSaid : Prop := formEndsRow.holds Try.pinned (OpenSpec.ofChange formEndsSpec)

/-- ITS FALSE NEIGHBOUR: 'it returns false'. Refute it at one input. -/
def formEndsWrong : ChangeSpec := { name := "formEnds", fn := fun _ => fun
  | [d1, d2] => { results := [.lit (.bool false)], args := [d1, d2] }
  | _ => none }
def FormEndsWrongFalsely : Prop := formEndsRow.holds Try.pinned (OpenSpec.ofChange formEndsWrong)

/-- 'foliotlaw6.FormForms': WHATEVER THE INPUT: true; the input reads as it did. -/
def formFormsSpec : ChangeSpec := { name := "formForms", fn := fun _ => fun
  | [] => { results := [.lit (.bool true)], args := [] }
  | _ => none }
def formFormsRow : OpenClaim := { program := "ytjnnjciedbgmiaa", sum := "be8595ebdeac310882b12665de597a565207544d6f5d1fc305878cc4fa4b43c1", func := "foliot/foliotlaw6.FormForms", spec := "formForms", unfollowed := true, recurses := true, plainKeys := false, apart := false }
def FormFormsSaid : Prop := formFormsRow.holds Try.pinned (OpenSpec.ofChange formFormsSpec)

/-- ITS FALSE NEIGHBOUR: 'it returns false'. Refute it at one input. -/
def formFormsWrong : ChangeSpec := { name := "formForms", fn := fun _ => fun
  | [] => { results := [.lit (.bool false)], args := [] }
  | _ => none }
def FormFormsWrongFalsely : Prop := formFormsRow.holds Try.pinned (OpenSpec.ofChange formFormsWrong)

/-- 'foliotlaw6.FormPairs': WHATEVER THE INPUT: true; the input reads as it did. -/
def formPairsSpec : ChangeSpec := { name := "formPairs", fn := fun _ => fun
  | [d] => { results := [.lit (.bool true)], args := [d] }
  | _ => none }
def formPairsRow : OpenClaim := { program := "ytjnnjciedbgmiaa", sum := "be8595ebdeac310882b12665de597a565207544d6f5d1fc305878cc4fa4b43c1", func := "foliot/foliotlaw6.FormPairs", spec := "formPairs", unfollowed := true, recurses := true, plainKeys := false, apart := false }
def FormPairsSaid : Prop := formPairsRow.holds Try.pinned (OpenSpec.ofChange formPairsSpec)

/-- ITS FALSE NEIGHBOUR: 'it returns false'. Refute it at one input. -/
def formPairsWrong : ChangeSpec := { name := "formPairs", fn := fun _ => fun
  | [d] => { results := [.lit (.bool false)], args := [d] }
  | _ => none }
def FormPairsWrongFalsely : Prop := formPairsRow.holds Try.pinned (OpenSpec.ofChange formPairsWrong)

/-- 'foliotlaw6.FormAdds': WHATEVER THE INPUT: true; the input reads as it did. -/
def formAddsSpec : ChangeSpec := { name := "formAdds", fn := fun _ => fun
  | [d] => { results := [.lit (.bool true)], args := [d] }
  | _ => none }
def formAddsRow : OpenClaim := { program := "ytjnnjciedbgmiaa", sum := "be8595ebdeac310882b12665de597a565207544d6f5d1fc305878cc4fa4b43c1", func := "foliot/foliotlaw6.FormAdds", spec := "formAdds", unfollowed := true, recurses := true, plainKeys := false, apart := false }
def FormAddsSaid : Prop := formAddsRow.holds Try.pinned (OpenSpec.ofChange formAddsSpec)

/-- ITS FALSE NEIGHBOUR: 'it returns false'. Refute it at one input. -/
def formAddsWrong : ChangeSpec := { name := "formAdds", fn := fun _ => fun
  | [d] => { results := [.lit (.bool false)], args := [d] }
  | _ => none }
def FormAddsWrongFalsely : Prop := formAddsRow.holds Try.pinned (OpenSpec.ofChange formAddsWrong)

/-- 'foliotlaw7.CostAll': WHATEVER THE INPUT: true; the input reads as it did. -/
def costAllSpec : ChangeSpec := { name := "costAll", fn := fun _ => fun
  | [d1, d2] => { results := [.lit (.bool true)], args := [d1, d2] }
  | _ => none }
def costAllRow : OpenClaim := { program := "ytjnnjciedbgmiaa", sum := "be8595ebdeac310882b12665de597a565207544d6f5d1fc305878cc4fa4b43c1", func := "foliot/foliotlaw7.CostAll", spec := "costAll", unfollowed := true, recurses := true, plainKeys := false, apart := false }
def CostAllSaid : Prop := costAllRow.holds Try.pinned (OpenSpec.ofChange costAllSpec)

/-- ITS FALSE NEIGHBOUR: 'it returns false'. Refute it at one input. -/
def costAllWrong : ChangeSpec := { name := "costAll", fn := fun _ => fun
  | [d1, d2] => { results := [.lit (.bool false)], args := [d1, d2] }
  | _ => none }
def CostAllWrongFalsely : Prop := costAllRow.holds Try.pinned (OpenSpec.ofChange costAllWrong)

/-- 'foliotlaw7.CostHolds': WHATEVER THE INPUT: true; the input reads as it did. -/
def costHoldsSpec : ChangeSpec := { name := "costHolds", fn := fun _ => fun
  | [d1, d2] => { results := [.lit (.bool true)], args := [d1, d2] }
  | _ => none }
def costHoldsRow : OpenClaim := { program := "ytjnnjciedbgmiaa", sum := "be8595ebdeac310882b12665de597a565207544d6f5d1fc305878cc4fa4b43c1", func := "foliot/foliotlaw7.CostHolds", spec := "costHolds", unfollowed := true, recurses := true, plainKeys := false, apart := false }
def CostHoldsSaid : Prop := costHoldsRow.holds Try.pinned (OpenSpec.ofChange costHoldsSpec)

/-- ITS FALSE NEIGHBOUR: 'it returns false'. Refute it at one input. -/
def costHoldsWrong : ChangeSpec := { name := "costHolds", fn := fun _ => fun
  | [d1, d2] => { results := [.lit (.bool false)], args := [d1, d2] }
  | _ => none }
def CostHoldsWrongFalsely : Prop := costHoldsRow.holds Try.pinned (OpenSpec.ofChange costHoldsWrong)

/-- 'foliotlaw7.CostStraight': WHATEVER THE INPUT: true; the input reads as it did. -/
def costStraightSpec : ChangeSpec := { name := "costStraight", fn := fun _ => fun
  | [d1, d2] => { results := [.lit (.bool true)], args := [d1, d2] }
  | _ => none }
def costStraightRow : OpenClaim := { program := "ytjnnjciedbgmiaa", sum := "be8595ebdeac310882b12665de597a565207544d6f5d1fc305878cc4fa4b43c1", func := "foliot/foliotlaw7.CostStraight", spec := "costStraight", unfollowed := true, recurses := true, plainKeys := false, apart := false }
def CostStraightSaid : Prop := costStraightRow.holds Try.pinned (OpenSpec.ofChange costStraightSpec)

/-- ITS FALSE NEIGHBOUR: 'it returns false'. Refute it at one input. -/
def costStraightWrong : ChangeSpec := { name := "costStraight", fn := fun _ => fun
  | [d1, d2] => { results := [.lit (.bool false)], args := [d1, d2] }
  | _ => none }
def CostStraightWrongFalsely : Prop := costStraightRow.holds Try.pinned (OpenSpec.ofChange costStraightWrong)

/-- 'foliotlaw7.CostForms': WHATEVER THE INPUT: true; the input reads as it did. -/
def costFormsSpec : ChangeSpec := { name := "costForms", fn := fun _ => fun
  | [] => { results := [.lit (.bool true)], args := [] }
  | _ => none }
def costFormsRow : OpenClaim := { program := "ytjnnjciedbgmiaa", sum := "be8595ebdeac310882b12665de597a565207544d6f5d1fc305878cc4fa4b43c1", func := "foliot/foliotlaw7.CostForms", spec := "costForms", unfollowed := true, recurses := true, plainKeys := false, apart := false }
def CostFormsSaid : Prop := costFormsRow.holds Try.pinned (OpenSpec.ofChange costFormsSpec)

/-- ITS FALSE NEIGHBOUR: 'it returns false'. Refute it at one input. -/
def costFormsWrong : ChangeSpec := { name := "costForms", fn := fun _ => fun
  | [] => { results := [.lit (.bool false)], args := [] }
  | _ => none }
def CostFormsWrongFalsely : Prop := costFormsRow.holds Try.pinned (OpenSpec.ofChange costFormsWrong)

/-- 'foliotlaw7.CostMore': WHATEVER THE INPUT: true; the input reads as it did. -/
def costMoreSpec : ChangeSpec := { name := "costMore", fn := fun _ => fun
  | [d] => { results := [.lit (.bool true)], args := [d] }
  | _ => none }
def costMoreRow : OpenClaim := { program := "ytjnnjciedbgmiaa", sum := "be8595ebdeac310882b12665de597a565207544d6f5d1fc305878cc4fa4b43c1", func := "foliot/foliotlaw7.CostMore", spec := "costMore", unfollowed := true, recurses := true, plainKeys := false, apart := false }
def CostMoreSaid : Prop := costMoreRow.holds Try.pinned (OpenSpec.ofChange costMoreSpec)

/-- ITS FALSE NEIGHBOUR: 'it returns false'. Refute it at one input. -/
def costMoreWrong : ChangeSpec := { name := "costMore", fn := fun _ => fun
  | [d] => { results := [.lit (.bool false)], args := [d] }
  | _ => none }
def CostMoreWrongFalsely : Prop := costMoreRow.holds Try.pinned (OpenSpec.ofChange costMoreWrong)

/- THE SECOND FORM. 'bulk': how many values and letters a reading holds, each counted each time it is reached (what is shared counts as often as it is met; a slice's spare places count too). A statement '..UptoSaid' is the law's where the arguments, and the package variables that the reading takes, are together of bulk at most 1048576: NARROWER than '..Said'. Prove '..Said' where nothing that the law and all that it calls make is longer than what came in: it says more and counts as full. Else prove '..UptoSaid'. A law counts once. -/
mutual
def uptoBulk {H : Type} : DataW H → Nat
  | .lit (.string bytes) => bytes.length + 1
  | .lit _ => 1
  | .nil => 1
  | .ptr d => uptoBulk d + 1
  | .slice elems spare => uptoBulkAll elems + uptoBulkAll spare + 1
  | .agg parts => uptoBulkAll parts + 1
  | .iface _ d => uptoBulk d + 1
  | .map entries => uptoBulkEntries entries + 1
  | .held _ => 1
def uptoBulkAll {H : Type} : List (DataW H) → Nat
  | [] => 0
  | d :: r => uptoBulk d + uptoBulkAll r
def uptoBulkEntries {H : Type} : List (Lit × DataW H) → Nat
  | [] => 0
  | x :: r => uptoBulkEntry x + uptoBulkEntries r
def uptoBulkEntry {H : Type} : Lit × DataW H → Nat
  | (.string bytes, d) => bytes.length + uptoBulk d + 1
  | (_, d) => uptoBulk d + 1
 end
def uptoSmall : (H : Type) → List (DataW H) → Bool := fun _ ds => decide (uptoBulkAll ds ≤ 1048576)
def OpenSpec.upto (s : _root_.Go.ChangeSpec) : _root_.Go.OpenSpec := { _root_.Go.OpenSpec.ofChange s with cond := some uptoSmall }

/-- 'foliotlaw6.FormAll', WHERE WHAT IT READS IS OF BULK AT MOST 1048576: true; the input reads as it did. -/
def formAllUptoRow : OpenClaim := { program := "ytjnnjciedbgmiaa", sum := "be8595ebdeac310882b12665de597a565207544d6f5d1fc305878cc4fa4b43c1", func := "foliot/foliotlaw6.FormAll", spec := "formAll", unfollowed := true, recurses := true, plainKeys := false, apart := false, narrowed := true }
def FormAllUptoSaid : Prop := formAllUptoRow.holds Try.pinned (OpenSpec.upto formAllSpec)

/-- 'foliotlaw6.FormEnds', WHERE WHAT IT READS IS OF BULK AT MOST 1048576: true; the input reads as it did. -/
def formEndsUptoRow : OpenClaim := { program := "ytjnnjciedbgmiaa", sum := "be8595ebdeac310882b12665de597a565207544d6f5d1fc305878cc4fa4b43c1", func := "foliot/foliotlaw6.FormEnds", spec := "formEnds", unfollowed := true, recurses := true, plainKeys := false, apart := false, narrowed := true }
def FormEndsUptoSaid : Prop := formEndsUptoRow.holds Try.pinned (OpenSpec.upto formEndsSpec)

/-- 'foliotlaw6.FormForms', WHERE WHAT IT READS IS OF BULK AT MOST 1048576: true; the input reads as it did. -/
def formFormsUptoRow : OpenClaim := { program := "ytjnnjciedbgmiaa", sum := "be8595ebdeac310882b12665de597a565207544d6f5d1fc305878cc4fa4b43c1", func := "foliot/foliotlaw6.FormForms", spec := "formForms", unfollowed := true, recurses := true, plainKeys := false, apart := false, narrowed := true }
def FormFormsUptoSaid : Prop := formFormsUptoRow.holds Try.pinned (OpenSpec.upto formFormsSpec)

/-- 'foliotlaw6.FormPairs', WHERE WHAT IT READS IS OF BULK AT MOST 1048576: true; the input reads as it did. -/
def formPairsUptoRow : OpenClaim := { program := "ytjnnjciedbgmiaa", sum := "be8595ebdeac310882b12665de597a565207544d6f5d1fc305878cc4fa4b43c1", func := "foliot/foliotlaw6.FormPairs", spec := "formPairs", unfollowed := true, recurses := true, plainKeys := false, apart := false, narrowed := true }
def FormPairsUptoSaid : Prop := formPairsUptoRow.holds Try.pinned (OpenSpec.upto formPairsSpec)

/-- 'foliotlaw6.FormAdds', WHERE WHAT IT READS IS OF BULK AT MOST 1048576: true; the input reads as it did. -/
def formAddsUptoRow : OpenClaim := { program := "ytjnnjciedbgmiaa", sum := "be8595ebdeac310882b12665de597a565207544d6f5d1fc305878cc4fa4b43c1", func := "foliot/foliotlaw6.FormAdds", spec := "formAdds", unfollowed := true, recurses := true, plainKeys := false, apart := false, narrowed := true }
def FormAddsUptoSaid : Prop := formAddsUptoRow.holds Try.pinned (OpenSpec.upto formAddsSpec)

/-- 'foliotlaw7.CostAll', WHERE WHAT IT READS IS OF BULK AT MOST 1048576: true; the input reads as it did. -/
def costAllUptoRow : OpenClaim := { program := "ytjnnjciedbgmiaa", sum := "be8595ebdeac310882b12665de597a565207544d6f5d1fc305878cc4fa4b43c1", func := "foliot/foliotlaw7.CostAll", spec := "costAll", unfollowed := true, recurses := true, plainKeys := false, apart := false, narrowed := true }
def CostAllUptoSaid : Prop := costAllUptoRow.holds Try.pinned (OpenSpec.upto costAllSpec)

/-- 'foliotlaw7.CostHolds', WHERE WHAT IT READS IS OF BULK AT MOST 1048576: true; the input reads as it did. -/
def costHoldsUptoRow : OpenClaim := { program := "ytjnnjciedbgmiaa", sum := "be8595ebdeac310882b12665de597a565207544d6f5d1fc305878cc4fa4b43c1", func := "foliot/foliotlaw7.CostHolds", spec := "costHolds", unfollowed := true, recurses := true, plainKeys := false, apart := false, narrowed := true }
def CostHoldsUptoSaid : Prop := costHoldsUptoRow.holds Try.pinned (OpenSpec.upto costHoldsSpec)

/-- 'foliotlaw7.CostStraight', WHERE WHAT IT READS IS OF BULK AT MOST 1048576: true; the input reads as it did. -/
def costStraightUptoRow : OpenClaim := { program := "ytjnnjciedbgmiaa", sum := "be8595ebdeac310882b12665de597a565207544d6f5d1fc305878cc4fa4b43c1", func := "foliot/foliotlaw7.CostStraight", spec := "costStraight", unfollowed := true, recurses := true, plainKeys := false, apart := false, narrowed := true }
def CostStraightUptoSaid : Prop := costStraightUptoRow.holds Try.pinned (OpenSpec.upto costStraightSpec)

/-- 'foliotlaw7.CostForms', WHERE WHAT IT READS IS OF BULK AT MOST 1048576: true; the input reads as it did. -/
def costFormsUptoRow : OpenClaim := { program := "ytjnnjciedbgmiaa", sum := "be8595ebdeac310882b12665de597a565207544d6f5d1fc305878cc4fa4b43c1", func := "foliot/foliotlaw7.CostForms", spec := "costForms", unfollowed := true, recurses := true, plainKeys := false, apart := false, narrowed := true }
def CostFormsUptoSaid : Prop := costFormsUptoRow.holds Try.pinned (OpenSpec.upto costFormsSpec)

/-- 'foliotlaw7.CostMore', WHERE WHAT IT READS IS OF BULK AT MOST 1048576: true; the input reads as it did. -/
def costMoreUptoRow : OpenClaim := { program := "ytjnnjciedbgmiaa", sum := "be8595ebdeac310882b12665de597a565207544d6f5d1fc305878cc4fa4b43c1", func := "foliot/foliotlaw7.CostMore", spec := "costMore", unfollowed := true, recurses := true, plainKeys := false, apart := false, narrowed := true }
def CostMoreUptoSaid : Prop := costMoreUptoRow.holds Try.pinned (OpenSpec.upto costMoreSpec)

end Rows
end Go.Proofs.Ytjnnjciedbgmiaa
