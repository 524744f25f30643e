/-
  No cell of these rows narrows 'for every input' (looked for: loops, veiled, ifaces, maps, wideKeys, modest, calm, conditions, laid).
  DERIVED. THE GIVEN ROWS OF THIS SEAT. 2 by the template 'for every input the law returns true; each argument reads behind the call as it read before'; 0 by the template 'total and deterministic' (their statements: YtfbkmdemekjdgaaGreatTotals.lean).
  GIVEN WITH THE SEED: the statements are not yours to turn. If you find one false, say at which input.
  Laid BY PROGRAM, IN A SANDBOX (cutbox-rows.mjs): the forced cells as the released guide's own fill.sh prints them over the translation d2482a66bc231a44… (all of the seat's roots in one cut). By AI agents, Wed Nov 11 2026. No macro, syntax, notation, axiom, sorry.
-/
import Derived.Test.YtfbkmdemekjdgaaGreatChecked
import GoSem.Claim
import GoSem.ClaimJoined
import GoSem.ClaimMapViews
import Derived.JoinedTies
import Derived.KernelRfl
namespace Go.Proofs.YtfbkmdemekjdgaaGreat
/- THE CELL 'sum', in the pinned program and in every row, IS THE sha256 OF THE DUMP (.gsa) THAT YtfbkmdemekjdgaaGreatProg.lean LOADS. Nothing in Lean hashes anything: it is a label: what it is worth is what the hold of that sum in a sandbox is worth. -/
noncomputable def Tryz.pinned : Pinned := { name := "ytfbkmdemekjdgaagreat", sum := "d2482a66bc231a44f8fe856f61b6c5272fe133775107bffb58b7ce37124d368c", checked := Tryz.checked }
namespace Rows
def none {H : Type} : Left H := { results := [], args := [] }

/-- 'foliotlaw26.TrialForms': WHATEVER THE INPUT: true; the input reads as it did. -/
def trialFormsSpec : ChangeSpec := { name := "trialForms", fn := fun _ => fun
  | [] => { results := [.lit (.bool true)], args := [] }
  | _ => none }
def trialFormsRow : OpenClaim := { program := "ytfbkmdemekjdgaagreat", sum := "d2482a66bc231a44f8fe856f61b6c5272fe133775107bffb58b7ce37124d368c", func := "foliot/foliotlaw26.TrialForms", spec := "trialForms", inPlace := ["slices.overlaps[foliot/api.Task]", "slices.overlaps[foliot/api.Job]"], unfollowed := true, recurses := true, plainKeys := false, apart := false }
def TrialFormsSaid : Prop := trialFormsRow.holds Tryz.pinned (OpenSpec.ofChange trialFormsSpec)

/-- ITS FALSE NEIGHBOUR: 'it returns false'. Refute it at one input. -/
def trialFormsWrong : ChangeSpec := { name := "trialForms", fn := fun _ => fun
  | [] => { results := [.lit (.bool false)], args := [] }
  | _ => none }
def TrialFormsWrongFalsely : Prop := trialFormsRow.holds Tryz.pinned (OpenSpec.ofChange trialFormsWrong)

/-- 'foliotlaw26.TrialTurns': WHATEVER THE INPUT: true; the input reads as it did. -/
def trialTurnsSpec : ChangeSpec := { name := "trialTurns", fn := fun _ => fun
  | [d1, d2, d3] => { results := [.lit (.bool true)], args := [d1, d2, d3] }
  | _ => none }
def trialTurnsRow : OpenClaim := { program := "ytfbkmdemekjdgaagreat", sum := "d2482a66bc231a44f8fe856f61b6c5272fe133775107bffb58b7ce37124d368c", func := "foliot/foliotlaw26.TrialTurns", spec := "trialTurns", inPlace := ["slices.overlaps[foliot/api.Task]", "slices.overlaps[foliot/api.Job]"], unfollowed := true, recurses := true, plainKeys := false, apart := false }
def TrialTurnsSaid : Prop := trialTurnsRow.holds Tryz.pinned (OpenSpec.ofChange trialTurnsSpec)

/-- ITS FALSE NEIGHBOUR: 'it returns false'. Refute it at one input. -/
def trialTurnsWrong : ChangeSpec := { name := "trialTurns", fn := fun _ => fun
  | [d1, d2, d3] => { results := [.lit (.bool false)], args := [d1, d2, d3] }
  | _ => none }
def TrialTurnsWrongFalsely : Prop := trialTurnsRow.holds Tryz.pinned (OpenSpec.ofChange trialTurnsWrong)

/- THE SECOND FORM. 'bulk': how many values and letters a reading holds, each counted each time it is reached (what is shared counts as often as it is met; a slice's spare places count too). A statement '..UptoSaid' is the law's where the arguments, and the package variables that the reading takes, are together of bulk at most 1048576: NARROWER than '..Said'. Prove '..Said' where nothing that the law and all that it calls make is longer than what came in: it says more and counts as full. Else prove '..UptoSaid'. A law counts once. -/
mutual
def uptoBulk {H : Type} : DataW H → Nat
  | .lit (.string bytes) => bytes.length + 1
  | .lit _ => 1
  | .nil => 1
  | .ptr d => uptoBulk d + 1
  | .slice elems spare => uptoBulkAll elems + uptoBulkAll spare + 1
  | .agg parts => uptoBulkAll parts + 1
  | .iface _ d => uptoBulk d + 1
  | .map entries => uptoBulkEntries entries + 1
  | .held _ => 1
def uptoBulkAll {H : Type} : List (DataW H) → Nat
  | [] => 0
  | d :: r => uptoBulk d + uptoBulkAll r
def uptoBulkEntries {H : Type} : List (Lit × DataW H) → Nat
  | [] => 0
  | x :: r => uptoBulkEntry x + uptoBulkEntries r
def uptoBulkEntry {H : Type} : Lit × DataW H → Nat
  | (.string bytes, d) => bytes.length + uptoBulk d + 1
  | (_, d) => uptoBulk d + 1
 end
def uptoSmall : (H : Type) → List (DataW H) → Bool := fun _ ds => decide (uptoBulkAll ds ≤ 1048576)
def OpenSpec.upto (s : _root_.Go.ChangeSpec) : _root_.Go.OpenSpec := { _root_.Go.OpenSpec.ofChange s with cond := some uptoSmall }

/-- 'foliotlaw26.TrialForms', WHERE WHAT IT READS IS OF BULK AT MOST 1048576: true; the input reads as it did. -/
def trialFormsUptoRow : OpenClaim := { program := "ytfbkmdemekjdgaagreat", sum := "d2482a66bc231a44f8fe856f61b6c5272fe133775107bffb58b7ce37124d368c", func := "foliot/foliotlaw26.TrialForms", spec := "trialForms", inPlace := ["slices.overlaps[foliot/api.Task]", "slices.overlaps[foliot/api.Job]"], unfollowed := true, recurses := true, plainKeys := false, apart := false, narrowed := true }
def TrialFormsUptoSaid : Prop := trialFormsUptoRow.holds Tryz.pinned (OpenSpec.upto trialFormsSpec)

/-- 'foliotlaw26.TrialTurns', WHERE WHAT IT READS IS OF BULK AT MOST 1048576: true; the input reads as it did. -/
def trialTurnsUptoRow : OpenClaim := { program := "ytfbkmdemekjdgaagreat", sum := "d2482a66bc231a44f8fe856f61b6c5272fe133775107bffb58b7ce37124d368c", func := "foliot/foliotlaw26.TrialTurns", spec := "trialTurns", inPlace := ["slices.overlaps[foliot/api.Task]", "slices.overlaps[foliot/api.Job]"], unfollowed := true, recurses := true, plainKeys := false, apart := false, narrowed := true }
def TrialTurnsUptoSaid : Prop := trialTurnsUptoRow.holds Tryz.pinned (OpenSpec.upto trialTurnsSpec)

end Rows
end Go.Proofs.YtfbkmdemekjdgaaGreat
