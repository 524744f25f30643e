/-
  No cell of these rows narrows 'for every input' (looked for: loops, veiled, ifaces, maps, wideKeys, modest, calm, conditions, laid).
  DERIVED. THE GIVEN ROWS OF THIS SEAT. 4 by the template 'for every input the law returns true; each argument reads behind the call as it read before'; 0 by the template 'total and deterministic' (their statements: YtkhahfpjnmebdaaTotals.lean).
  GIVEN WITH THE SEED: the statements are not yours to turn. If you find one false, say at which input.
  Laid BY PROGRAM, IN A SANDBOX (cutbox-rows.mjs): the forced cells as the released guide's own fill.sh prints them over the translation 17c7e1e8a2837a74… (all of the seat's roots in one cut). By AI agents, Wed Nov 11 2026. No macro, syntax, notation, axiom, sorry.
-/
import Derived.Test.YtkhahfpjnmebdaaChecked
import GoSem.Claim
import GoSem.ClaimJoined
import GoSem.ClaimMapViews
import Derived.JoinedTies
import Derived.KernelRfl
namespace Go.Proofs.Ytkhahfpjnmebdaa
/- THE CELL 'sum', in the pinned program and in every row, IS THE sha256 OF THE DUMP (.gsa) THAT YtkhahfpjnmebdaaProg.lean LOADS. Nothing in Lean hashes anything: it is a label: what it is worth is what the hold of that sum in a sandbox is worth. -/
noncomputable def Try.pinned : Pinned := { name := "ytkhahfpjnmebdaa", sum := "17c7e1e8a2837a7479ace9be088f3bbe0fbb7e3a23fd9f5bb764f24be8ca18a1", checked := Try.checked }
namespace Rows
def none {H : Type} : Left H := { results := [], args := [] }

/-- 'foliotlaw2.SlotsAll': WHATEVER THE INPUT: true; the input reads as it did. -/
def slotsAllSpec : ChangeSpec := { name := "slotsAll", fn := fun _ => fun
  | [d1, d2, d3] => { results := [.lit (.bool true)], args := [d1, d2, d3] }
  | _ => none }
def slotsAllRow : OpenClaim := { program := "ytkhahfpjnmebdaa", sum := "17c7e1e8a2837a7479ace9be088f3bbe0fbb7e3a23fd9f5bb764f24be8ca18a1", func := "foliot/foliotlaw2.SlotsAll", spec := "slotsAll", plainKeys := false, apart := false }
def SlotsAllSaid : Prop := slotsAllRow.holds Try.pinned (OpenSpec.ofChange slotsAllSpec)

/-- ITS FALSE NEIGHBOUR: 'it returns false'. Refute it at one input. -/
def slotsAllWrong : ChangeSpec := { name := "slotsAll", fn := fun _ => fun
  | [d1, d2, d3] => { results := [.lit (.bool false)], args := [d1, d2, d3] }
  | _ => none }
def SlotsAllWrongFalsely : Prop := slotsAllRow.holds Try.pinned (OpenSpec.ofChange slotsAllWrong)

/-- 'foliotlaw2.SlotsOnce': WHATEVER THE INPUT: true; the input reads as it did. -/
def slotsOnceSpec : ChangeSpec := { name := "slotsOnce", fn := fun _ => fun
  | [d1, d2] => { results := [.lit (.bool true)], args := [d1, d2] }
  | _ => none }
def slotsOnceRow : OpenClaim := { program := "ytkhahfpjnmebdaa", sum := "17c7e1e8a2837a7479ace9be088f3bbe0fbb7e3a23fd9f5bb764f24be8ca18a1", func := "foliot/foliotlaw2.SlotsOnce", spec := "slotsOnce", plainKeys := false, apart := false }
def SlotsOnceSaid : Prop := slotsOnceRow.holds Try.pinned (OpenSpec.ofChange slotsOnceSpec)

/-- ITS FALSE NEIGHBOUR: 'it returns false'. Refute it at one input. -/
def slotsOnceWrong : ChangeSpec := { name := "slotsOnce", fn := fun _ => fun
  | [d1, d2] => { results := [.lit (.bool false)], args := [d1, d2] }
  | _ => none }
def SlotsOnceWrongFalsely : Prop := slotsOnceRow.holds Try.pinned (OpenSpec.ofChange slotsOnceWrong)

/-- 'foliotlaw2.SlotsForms': WHATEVER THE INPUT: true; the input reads as it did. -/
def slotsFormsSpec : ChangeSpec := { name := "slotsForms", fn := fun _ => fun
  | [] => { results := [.lit (.bool true)], args := [] }
  | _ => none }
def slotsFormsRow : OpenClaim := { program := "ytkhahfpjnmebdaa", sum := "17c7e1e8a2837a7479ace9be088f3bbe0fbb7e3a23fd9f5bb764f24be8ca18a1", func := "foliot/foliotlaw2.SlotsForms", spec := "slotsForms", plainKeys := false, apart := false }
def SlotsFormsSaid : Prop := slotsFormsRow.holds Try.pinned (OpenSpec.ofChange slotsFormsSpec)

/-- ITS FALSE NEIGHBOUR: 'it returns false'. Refute it at one input. -/
def slotsFormsWrong : ChangeSpec := { name := "slotsForms", fn := fun _ => fun
  | [] => { results := [.lit (.bool false)], args := [] }
  | _ => none }
def SlotsFormsWrongFalsely : Prop := slotsFormsRow.holds Try.pinned (OpenSpec.ofChange slotsFormsWrong)

/-- 'foliotlaw2.SlotsWild': WHATEVER THE INPUT: true; the input reads as it did. -/
def slotsWildSpec : ChangeSpec := { name := "slotsWild", fn := fun _ => fun
  | [d1, d2, d3] => { results := [.lit (.bool true)], args := [d1, d2, d3] }
  | _ => none }
def slotsWildRow : OpenClaim := { program := "ytkhahfpjnmebdaa", sum := "17c7e1e8a2837a7479ace9be088f3bbe0fbb7e3a23fd9f5bb764f24be8ca18a1", func := "foliot/foliotlaw2.SlotsWild", spec := "slotsWild", plainKeys := false, apart := false }
def SlotsWildSaid : Prop := slotsWildRow.holds Try.pinned (OpenSpec.ofChange slotsWildSpec)

/-- ITS FALSE NEIGHBOUR: 'it returns false'. Refute it at one input. -/
def slotsWildWrong : ChangeSpec := { name := "slotsWild", fn := fun _ => fun
  | [d1, d2, d3] => { results := [.lit (.bool false)], args := [d1, d2, d3] }
  | _ => none }
def SlotsWildWrongFalsely : Prop := slotsWildRow.holds Try.pinned (OpenSpec.ofChange slotsWildWrong)

/- THE SECOND FORM. 'bulk': how many values and letters a reading holds, each counted each time it is reached (what is shared counts as often as it is met; a slice's spare places count too). A statement '..UptoSaid' is the law's where the arguments, and the package variables that the reading takes, are together of bulk at most 1048576: NARROWER than '..Said'. Prove '..Said' where nothing that the law and all that it calls make is longer than what came in: it says more and counts as full. Else prove '..UptoSaid'. A law counts once. -/
mutual
def uptoBulk {H : Type} : DataW H → Nat
  | .lit (.string bytes) => bytes.length + 1
  | .lit _ => 1
  | .nil => 1
  | .ptr d => uptoBulk d + 1
  | .slice elems spare => uptoBulkAll elems + uptoBulkAll spare + 1
  | .agg parts => uptoBulkAll parts + 1
  | .iface _ d => uptoBulk d + 1
  | .map entries => uptoBulkEntries entries + 1
  | .held _ => 1
def uptoBulkAll {H : Type} : List (DataW H) → Nat
  | [] => 0
  | d :: r => uptoBulk d + uptoBulkAll r
def uptoBulkEntries {H : Type} : List (Lit × DataW H) → Nat
  | [] => 0
  | x :: r => uptoBulkEntry x + uptoBulkEntries r
def uptoBulkEntry {H : Type} : Lit × DataW H → Nat
  | (.string bytes, d) => bytes.length + uptoBulk d + 1
  | (_, d) => uptoBulk d + 1
 end
def uptoSmall : (H : Type) → List (DataW H) → Bool := fun _ ds => decide (uptoBulkAll ds ≤ 1048576)
def OpenSpec.upto (s : _root_.Go.ChangeSpec) : _root_.Go.OpenSpec := { _root_.Go.OpenSpec.ofChange s with cond := some uptoSmall }

/-- 'foliotlaw2.SlotsAll', WHERE WHAT IT READS IS OF BULK AT MOST 1048576: true; the input reads as it did. -/
def slotsAllUptoRow : OpenClaim := { program := "ytkhahfpjnmebdaa", sum := "17c7e1e8a2837a7479ace9be088f3bbe0fbb7e3a23fd9f5bb764f24be8ca18a1", func := "foliot/foliotlaw2.SlotsAll", spec := "slotsAll", plainKeys := false, apart := false, narrowed := true }
def SlotsAllUptoSaid : Prop := slotsAllUptoRow.holds Try.pinned (OpenSpec.upto slotsAllSpec)

/-- 'foliotlaw2.SlotsOnce', WHERE WHAT IT READS IS OF BULK AT MOST 1048576: true; the input reads as it did. -/
def slotsOnceUptoRow : OpenClaim := { program := "ytkhahfpjnmebdaa", sum := "17c7e1e8a2837a7479ace9be088f3bbe0fbb7e3a23fd9f5bb764f24be8ca18a1", func := "foliot/foliotlaw2.SlotsOnce", spec := "slotsOnce", plainKeys := false, apart := false, narrowed := true }
def SlotsOnceUptoSaid : Prop := slotsOnceUptoRow.holds Try.pinned (OpenSpec.upto slotsOnceSpec)

/-- 'foliotlaw2.SlotsForms', WHERE WHAT IT READS IS OF BULK AT MOST 1048576: true; the input reads as it did. -/
def slotsFormsUptoRow : OpenClaim := { program := "ytkhahfpjnmebdaa", sum := "17c7e1e8a2837a7479ace9be088f3bbe0fbb7e3a23fd9f5bb764f24be8ca18a1", func := "foliot/foliotlaw2.SlotsForms", spec := "slotsForms", plainKeys := false, apart := false, narrowed := true }
def SlotsFormsUptoSaid : Prop := slotsFormsUptoRow.holds Try.pinned (OpenSpec.upto slotsFormsSpec)

/-- 'foliotlaw2.SlotsWild', WHERE WHAT IT READS IS OF BULK AT MOST 1048576: true; the input reads as it did. -/
def slotsWildUptoRow : OpenClaim := { program := "ytkhahfpjnmebdaa", sum := "17c7e1e8a2837a7479ace9be088f3bbe0fbb7e3a23fd9f5bb764f24be8ca18a1", func := "foliot/foliotlaw2.SlotsWild", spec := "slotsWild", plainKeys := false, apart := false, narrowed := true }
def SlotsWildUptoSaid : Prop := slotsWildUptoRow.holds Try.pinned (OpenSpec.upto slotsWildSpec)

end Rows
end Go.Proofs.Ytkhahfpjnmebdaa
