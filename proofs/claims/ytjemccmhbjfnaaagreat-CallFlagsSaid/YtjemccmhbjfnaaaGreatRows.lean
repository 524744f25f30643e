/-
  No cell of these rows narrows 'for every input' (looked for: loops, veiled, ifaces, maps, wideKeys, modest, calm, conditions, laid).
  DERIVED. THE GIVEN ROWS OF THIS SEAT. 4 by the template 'for every input the law returns true; each argument reads behind the call as it read before'; 0 by the template 'total and deterministic' (their statements: YtjemccmhbjfnaaaGreatTotals.lean).
  GIVEN WITH THE SEED: the statements are not yours to turn. If you find one false, say at which input.
  Laid BY PROGRAM, IN A SANDBOX (cutbox-rows.mjs): the forced cells as the released guide's own fill.sh prints them over the translation 89e117eba5682e8d… (all of the seat's roots in one cut). By AI agents, Wed Nov 11 2026. No macro, syntax, notation, axiom, sorry.
-/
import Derived.Test.YtjemccmhbjfnaaaGreatChecked
import GoSem.Claim
import GoSem.ClaimJoined
import GoSem.ClaimMapViews
import Derived.JoinedTies
import Derived.KernelRfl
namespace Go.Proofs.YtjemccmhbjfnaaaGreat
/- THE CELL 'sum', in the pinned program and in every row, IS THE sha256 OF THE DUMP (.gsa) THAT YtjemccmhbjfnaaaGreatProg.lean LOADS. Nothing in Lean hashes anything: it is a label: what it is worth is what the hold of that sum in a sandbox is worth. -/
noncomputable def Tryz.pinned : Pinned := { name := "ytjemccmhbjfnaaagreat", sum := "89e117eba5682e8d0e165aa6029d4cc088732ec71e59e48ec92720658ed4cc27", checked := Tryz.checked }
namespace Rows
def none {H : Type} : Left H := { results := [], args := [] }

/-- 'foliotlaw25.CallForms': WHATEVER THE INPUT: true; the input reads as it did. -/
def callFormsSpec : ChangeSpec := { name := "callForms", fn := fun _ => fun
  | [] => { results := [.lit (.bool true)], args := [] }
  | _ => none }
def callFormsRow : OpenClaim := { program := "ytjemccmhbjfnaaagreat", sum := "89e117eba5682e8d0e165aa6029d4cc088732ec71e59e48ec92720658ed4cc27", func := "foliot/foliotlaw25.CallForms", spec := "callForms", inPlace := ["slices.overlaps[foliot/api.Task]", "slices.overlaps[foliot/api.Job]"], unfollowed := true, recurses := true, plainKeys := false, apart := false }
def CallFormsSaid : Prop := callFormsRow.holds Tryz.pinned (OpenSpec.ofChange callFormsSpec)

/-- ITS FALSE NEIGHBOUR: 'it returns false'. Refute it at one input. -/
def callFormsWrong : ChangeSpec := { name := "callForms", fn := fun _ => fun
  | [] => { results := [.lit (.bool false)], args := [] }
  | _ => none }
def CallFormsWrongFalsely : Prop := callFormsRow.holds Tryz.pinned (OpenSpec.ofChange callFormsWrong)

/-- 'foliotlaw25.CallOld': WHATEVER THE INPUT: true; the input reads as it did. -/
def callOldSpec : ChangeSpec := { name := "callOld", fn := fun _ => fun
  | [d1, d2, d3] => { results := [.lit (.bool true)], args := [d1, d2, d3] }
  | _ => none }
def callOldRow : OpenClaim := { program := "ytjemccmhbjfnaaagreat", sum := "89e117eba5682e8d0e165aa6029d4cc088732ec71e59e48ec92720658ed4cc27", func := "foliot/foliotlaw25.CallOld", spec := "callOld", inPlace := ["slices.overlaps[foliot/api.Task]", "slices.overlaps[foliot/api.Job]"], unfollowed := true, recurses := true, plainKeys := false, apart := false }
def CallOldSaid : Prop := callOldRow.holds Tryz.pinned (OpenSpec.ofChange callOldSpec)

/-- ITS FALSE NEIGHBOUR: 'it returns false'. Refute it at one input. -/
def callOldWrong : ChangeSpec := { name := "callOld", fn := fun _ => fun
  | [d1, d2, d3] => { results := [.lit (.bool false)], args := [d1, d2, d3] }
  | _ => none }
def CallOldWrongFalsely : Prop := callOldRow.holds Tryz.pinned (OpenSpec.ofChange callOldWrong)

/-- 'foliotlaw25.CallFlags': WHATEVER THE INPUT: true; the input reads as it did. -/
def callFlagsSpec : ChangeSpec := { name := "callFlags", fn := fun _ => fun
  | [d] => { results := [.lit (.bool true)], args := [d] }
  | _ => none }
def callFlagsRow : OpenClaim := { program := "ytjemccmhbjfnaaagreat", sum := "89e117eba5682e8d0e165aa6029d4cc088732ec71e59e48ec92720658ed4cc27", func := "foliot/foliotlaw25.CallFlags", spec := "callFlags", inPlace := ["slices.overlaps[foliot/api.Task]", "slices.overlaps[foliot/api.Job]"], unfollowed := true, recurses := true, plainKeys := false, apart := false }
def CallFlagsSaid : Prop := callFlagsRow.holds Tryz.pinned (OpenSpec.ofChange callFlagsSpec)

/-- ITS FALSE NEIGHBOUR: 'it returns false'. Refute it at one input. -/
def callFlagsWrong : ChangeSpec := { name := "callFlags", fn := fun _ => fun
  | [d] => { results := [.lit (.bool false)], args := [d] }
  | _ => none }
def CallFlagsWrongFalsely : Prop := callFlagsRow.holds Tryz.pinned (OpenSpec.ofChange callFlagsWrong)

/-- 'foliotlaw25.CallBoxes': WHATEVER THE INPUT: true; the input reads as it did. -/
def callBoxesSpec : ChangeSpec := { name := "callBoxes", fn := fun _ => fun
  | [d] => { results := [.lit (.bool true)], args := [d] }
  | _ => none }
def callBoxesRow : OpenClaim := { program := "ytjemccmhbjfnaaagreat", sum := "89e117eba5682e8d0e165aa6029d4cc088732ec71e59e48ec92720658ed4cc27", func := "foliot/foliotlaw25.CallBoxes", spec := "callBoxes", inPlace := ["slices.overlaps[foliot/api.Task]", "slices.overlaps[foliot/api.Job]"], unfollowed := true, recurses := true, plainKeys := false, apart := false }
def CallBoxesSaid : Prop := callBoxesRow.holds Tryz.pinned (OpenSpec.ofChange callBoxesSpec)

/-- ITS FALSE NEIGHBOUR: 'it returns false'. Refute it at one input. -/
def callBoxesWrong : ChangeSpec := { name := "callBoxes", fn := fun _ => fun
  | [d] => { results := [.lit (.bool false)], args := [d] }
  | _ => none }
def CallBoxesWrongFalsely : Prop := callBoxesRow.holds Tryz.pinned (OpenSpec.ofChange callBoxesWrong)

/- THE SECOND FORM. 'bulk': how many values and letters a reading holds, each counted each time it is reached (what is shared counts as often as it is met; a slice's spare places count too). A statement '..UptoSaid' is the law's where the arguments, and the package variables that the reading takes, are together of bulk at most 1048576: NARROWER than '..Said'. Prove '..Said' where nothing that the law and all that it calls make is longer than what came in: it says more and counts as full. Else prove '..UptoSaid'. A law counts once. -/
mutual
def uptoBulk {H : Type} : DataW H → Nat
  | .lit (.string bytes) => bytes.length + 1
  | .lit _ => 1
  | .nil => 1
  | .ptr d => uptoBulk d + 1
  | .slice elems spare => uptoBulkAll elems + uptoBulkAll spare + 1
  | .agg parts => uptoBulkAll parts + 1
  | .iface _ d => uptoBulk d + 1
  | .map entries => uptoBulkEntries entries + 1
  | .held _ => 1
def uptoBulkAll {H : Type} : List (DataW H) → Nat
  | [] => 0
  | d :: r => uptoBulk d + uptoBulkAll r
def uptoBulkEntries {H : Type} : List (Lit × DataW H) → Nat
  | [] => 0
  | x :: r => uptoBulkEntry x + uptoBulkEntries r
def uptoBulkEntry {H : Type} : Lit × DataW H → Nat
  | (.string bytes, d) => bytes.length + uptoBulk d + 1
  | (_, d) => uptoBulk d + 1
 end
def uptoSmall : (H : Type) → List (DataW H) → Bool := fun _ ds => decide (uptoBulkAll ds ≤ 1048576)
def OpenSpec.upto (s : _root_.Go.ChangeSpec) : _root_.Go.OpenSpec := { _root_.Go.OpenSpec.ofChange s with cond := some uptoSmall }

/-- 'foliotlaw25.CallForms', WHERE WHAT IT READS IS OF BULK AT MOST 1048576: true; the input reads as it did. -/
def callFormsUptoRow : OpenClaim := { program := "ytjemccmhbjfnaaagreat", sum := "89e117eba5682e8d0e165aa6029d4cc088732ec71e59e48ec92720658ed4cc27", func := "foliot/foliotlaw25.CallForms", spec := "callForms", inPlace := ["slices.overlaps[foliot/api.Task]", "slices.overlaps[foliot/api.Job]"], unfollowed := true, recurses := true, plainKeys := false, apart := false, narrowed := true }
def CallFormsUptoSaid : Prop := callFormsUptoRow.holds Tryz.pinned (OpenSpec.upto callFormsSpec)

/-- 'foliotlaw25.CallOld', WHERE WHAT IT READS IS OF BULK AT MOST 1048576: true; the input reads as it did. -/
def callOldUptoRow : OpenClaim := { program := "ytjemccmhbjfnaaagreat", sum := "89e117eba5682e8d0e165aa6029d4cc088732ec71e59e48ec92720658ed4cc27", func := "foliot/foliotlaw25.CallOld", spec := "callOld", inPlace := ["slices.overlaps[foliot/api.Task]", "slices.overlaps[foliot/api.Job]"], unfollowed := true, recurses := true, plainKeys := false, apart := false, narrowed := true }
def CallOldUptoSaid : Prop := callOldUptoRow.holds Tryz.pinned (OpenSpec.upto callOldSpec)

/-- 'foliotlaw25.CallFlags', WHERE WHAT IT READS IS OF BULK AT MOST 1048576: true; the input reads as it did. -/
def callFlagsUptoRow : OpenClaim := { program := "ytjemccmhbjfnaaagreat", sum := "89e117eba5682e8d0e165aa6029d4cc088732ec71e59e48ec92720658ed4cc27", func := "foliot/foliotlaw25.CallFlags", spec := "callFlags", inPlace := ["slices.overlaps[foliot/api.Task]", "slices.overlaps[foliot/api.Job]"], unfollowed := true, recurses := true, plainKeys := false, apart := false, narrowed := true }
def CallFlagsUptoSaid : Prop := callFlagsUptoRow.holds Tryz.pinned (OpenSpec.upto callFlagsSpec)

/-- 'foliotlaw25.CallBoxes', WHERE WHAT IT READS IS OF BULK AT MOST 1048576: true; the input reads as it did. -/
def callBoxesUptoRow : OpenClaim := { program := "ytjemccmhbjfnaaagreat", sum := "89e117eba5682e8d0e165aa6029d4cc088732ec71e59e48ec92720658ed4cc27", func := "foliot/foliotlaw25.CallBoxes", spec := "callBoxes", inPlace := ["slices.overlaps[foliot/api.Task]", "slices.overlaps[foliot/api.Job]"], unfollowed := true, recurses := true, plainKeys := false, apart := false, narrowed := true }
def CallBoxesUptoSaid : Prop := callBoxesUptoRow.holds Tryz.pinned (OpenSpec.upto callBoxesSpec)

end Rows
end Go.Proofs.YtjemccmhbjfnaaaGreat
