/-
  No cell of these rows narrows 'for every input' (looked for: loops, veiled, ifaces, maps, wideKeys, modest, calm, conditions, laid).
  DERIVED. THE GIVEN ROWS OF THIS SEAT. 9 by the template 'for every input the law returns true; each argument reads behind the call as it read before'; 0 by the template 'total and deterministic' (their statements: YtnlfdfjkgaanjaaTotals.lean).
  GIVEN WITH THE SEED: the statements are not yours to turn. If you find one false, say at which input.
  Laid BY PROGRAM, IN A SANDBOX (cutbox-rows.mjs): the forced cells as the released guide's own fill.sh prints them over the translation f6271f8132d8d44c… (all of the seat's roots in one cut). By AI agents, Wed Nov 11 2026. No macro, syntax, notation, axiom, sorry.
-/
import Derived.Test.YtnlfdfjkgaanjaaChecked
import GoSem.Claim
import GoSem.ClaimJoined
import GoSem.ClaimMapViews
import Derived.JoinedTies
import Derived.KernelRfl
namespace Go.Proofs.Ytnlfdfjkgaanjaa
/- THE CELL 'sum', in the pinned program and in every row, IS THE sha256 OF THE DUMP (.gsa) THAT YtnlfdfjkgaanjaaProg.lean LOADS. Nothing in Lean hashes anything: it is a label: what it is worth is what the hold of that sum in a sandbox is worth. -/
noncomputable def Try.pinned : Pinned := { name := "ytnlfdfjkgaanjaa", sum := "f6271f8132d8d44c0a062b348b120bf282d08c6378407545ca55949c63f5bd50", checked := Try.checked }
namespace Rows
def none {H : Type} : Left H := { results := [], args := [] }

/-- 'foliotlaw9.PureAll': WHATEVER THE INPUT: true; the input reads as it did. -/
def pureAllSpec : ChangeSpec := { name := "pureAll", fn := fun _ => fun
  | [d1, d2, d3] => { results := [.lit (.bool true)], args := [d1, d2, d3] }
  | _ => none }
def pureAllRow : OpenClaim := { program := "ytnlfdfjkgaanjaa", sum := "f6271f8132d8d44c0a062b348b120bf282d08c6378407545ca55949c63f5bd50", func := "foliot/foliotlaw9.PureAll", spec := "pureAll", unfollowed := true, recurses := true, plainKeys := false, apart := false }
def PureAllSaid : Prop := pureAllRow.holds Try.pinned (OpenSpec.ofChange pureAllSpec)

/-- ITS FALSE NEIGHBOUR: 'it returns false'. Refute it at one input. -/
def pureAllWrong : ChangeSpec := { name := "pureAll", fn := fun _ => fun
  | [d1, d2, d3] => { results := [.lit (.bool false)], args := [d1, d2, d3] }
  | _ => none }
def PureAllWrongFalsely : Prop := pureAllRow.holds Try.pinned (OpenSpec.ofChange pureAllWrong)

/-- 'foliotlaw9.PureMarks': WHATEVER THE INPUT: true; the input reads as it did. -/
def pureMarksSpec : ChangeSpec := { name := "pureMarks", fn := fun _ => fun
  | [d1, d2] => { results := [.lit (.bool true)], args := [d1, d2] }
  | _ => none }
def pureMarksRow : OpenClaim := { program := "ytnlfdfjkgaanjaa", sum := "f6271f8132d8d44c0a062b348b120bf282d08c6378407545ca55949c63f5bd50", func := "foliot/foliotlaw9.PureMarks", spec := "pureMarks", unfollowed := true, recurses := true, plainKeys := false, apart := false }
def PureMarksSaid : Prop := pureMarksRow.holds Try.pinned (OpenSpec.ofChange pureMarksSpec)

/-- ITS FALSE NEIGHBOUR: 'it returns false'. Refute it at one input. -/
def pureMarksWrong : ChangeSpec := { name := "pureMarks", fn := fun _ => fun
  | [d1, d2] => { results := [.lit (.bool false)], args := [d1, d2] }
  | _ => none }
def PureMarksWrongFalsely : Prop := pureMarksRow.holds Try.pinned (OpenSpec.ofChange pureMarksWrong)

/-- 'foliotlaw9.PureForms': WHATEVER THE INPUT: true; the input reads as it did. -/
def pureFormsSpec : ChangeSpec := { name := "pureForms", fn := fun _ => fun
  | [] => { results := [.lit (.bool true)], args := [] }
  | _ => none }
def pureFormsRow : OpenClaim := { program := "ytnlfdfjkgaanjaa", sum := "f6271f8132d8d44c0a062b348b120bf282d08c6378407545ca55949c63f5bd50", func := "foliot/foliotlaw9.PureForms", spec := "pureForms", unfollowed := true, recurses := true, plainKeys := false, apart := false }
def PureFormsSaid : Prop := pureFormsRow.holds Try.pinned (OpenSpec.ofChange pureFormsSpec)

/-- ITS FALSE NEIGHBOUR: 'it returns false'. Refute it at one input. -/
def pureFormsWrong : ChangeSpec := { name := "pureForms", fn := fun _ => fun
  | [] => { results := [.lit (.bool false)], args := [] }
  | _ => none }
def PureFormsWrongFalsely : Prop := pureFormsRow.holds Try.pinned (OpenSpec.ofChange pureFormsWrong)

/-- 'foliotlaw9.PureAhead': WHATEVER THE INPUT: true; the input reads as it did. -/
def pureAheadSpec : ChangeSpec := { name := "pureAhead", fn := fun _ => fun
  | [d1, d2, d3, d4] => { results := [.lit (.bool true)], args := [d1, d2, d3, d4] }
  | _ => none }
def pureAheadRow : OpenClaim := { program := "ytnlfdfjkgaanjaa", sum := "f6271f8132d8d44c0a062b348b120bf282d08c6378407545ca55949c63f5bd50", func := "foliot/foliotlaw9.PureAhead", spec := "pureAhead", unfollowed := true, recurses := true, plainKeys := false, apart := false }
def PureAheadSaid : Prop := pureAheadRow.holds Try.pinned (OpenSpec.ofChange pureAheadSpec)

/-- ITS FALSE NEIGHBOUR: 'it returns false'. Refute it at one input. -/
def pureAheadWrong : ChangeSpec := { name := "pureAhead", fn := fun _ => fun
  | [d1, d2, d3, d4] => { results := [.lit (.bool false)], args := [d1, d2, d3, d4] }
  | _ => none }
def PureAheadWrongFalsely : Prop := pureAheadRow.holds Try.pinned (OpenSpec.ofChange pureAheadWrong)

/-- 'foliotlaw9.PureLoops': WHATEVER THE INPUT: true; the input reads as it did. -/
def pureLoopsSpec : ChangeSpec := { name := "pureLoops", fn := fun _ => fun
  | [d1, d2, d3] => { results := [.lit (.bool true)], args := [d1, d2, d3] }
  | _ => none }
def pureLoopsRow : OpenClaim := { program := "ytnlfdfjkgaanjaa", sum := "f6271f8132d8d44c0a062b348b120bf282d08c6378407545ca55949c63f5bd50", func := "foliot/foliotlaw9.PureLoops", spec := "pureLoops", unfollowed := true, recurses := true, plainKeys := false, apart := false }
def PureLoopsSaid : Prop := pureLoopsRow.holds Try.pinned (OpenSpec.ofChange pureLoopsSpec)

/-- ITS FALSE NEIGHBOUR: 'it returns false'. Refute it at one input. -/
def pureLoopsWrong : ChangeSpec := { name := "pureLoops", fn := fun _ => fun
  | [d1, d2, d3] => { results := [.lit (.bool false)], args := [d1, d2, d3] }
  | _ => none }
def PureLoopsWrongFalsely : Prop := pureLoopsRow.holds Try.pinned (OpenSpec.ofChange pureLoopsWrong)

/-- 'foliotlaw14.ObjForms': WHATEVER THE INPUT: true; the input reads as it did. -/
def objFormsSpec : ChangeSpec := { name := "objForms", fn := fun _ => fun
  | [] => { results := [.lit (.bool true)], args := [] }
  | _ => none }
def objFormsRow : OpenClaim := { program := "ytnlfdfjkgaanjaa", sum := "f6271f8132d8d44c0a062b348b120bf282d08c6378407545ca55949c63f5bd50", func := "foliot/foliotlaw14.ObjForms", spec := "objForms", plainKeys := false, apart := false }
def ObjFormsSaid : Prop := objFormsRow.holds Try.pinned (OpenSpec.ofChange objFormsSpec)

/-- ITS FALSE NEIGHBOUR: 'it returns false'. Refute it at one input. -/
def objFormsWrong : ChangeSpec := { name := "objForms", fn := fun _ => fun
  | [] => { results := [.lit (.bool false)], args := [] }
  | _ => none }
def ObjFormsWrongFalsely : Prop := objFormsRow.holds Try.pinned (OpenSpec.ofChange objFormsWrong)

/-- 'foliotlaw14.ObjHandles': WHATEVER THE INPUT: true; the input reads as it did. -/
def objHandlesSpec : ChangeSpec := { name := "objHandles", fn := fun _ => fun
  | [d] => { results := [.lit (.bool true)], args := [d] }
  | _ => none }
def objHandlesRow : OpenClaim := { program := "ytnlfdfjkgaanjaa", sum := "f6271f8132d8d44c0a062b348b120bf282d08c6378407545ca55949c63f5bd50", func := "foliot/foliotlaw14.ObjHandles", spec := "objHandles", plainKeys := false, apart := false }
def ObjHandlesSaid : Prop := objHandlesRow.holds Try.pinned (OpenSpec.ofChange objHandlesSpec)

/-- ITS FALSE NEIGHBOUR: 'it returns false'. Refute it at one input. -/
def objHandlesWrong : ChangeSpec := { name := "objHandles", fn := fun _ => fun
  | [d] => { results := [.lit (.bool false)], args := [d] }
  | _ => none }
def ObjHandlesWrongFalsely : Prop := objHandlesRow.holds Try.pinned (OpenSpec.ofChange objHandlesWrong)

/-- 'foliotlaw14.ObjApart': WHATEVER THE INPUT: true; the input reads as it did. -/
def objApartSpec : ChangeSpec := { name := "objApart", fn := fun _ => fun
  | [d1, d2, d3] => { results := [.lit (.bool true)], args := [d1, d2, d3] }
  | _ => none }
def objApartRow : OpenClaim := { program := "ytnlfdfjkgaanjaa", sum := "f6271f8132d8d44c0a062b348b120bf282d08c6378407545ca55949c63f5bd50", func := "foliot/foliotlaw14.ObjApart", spec := "objApart", plainKeys := false, apart := false }
def ObjApartSaid : Prop := objApartRow.holds Try.pinned (OpenSpec.ofChange objApartSpec)

/-- ITS FALSE NEIGHBOUR: 'it returns false'. Refute it at one input. -/
def objApartWrong : ChangeSpec := { name := "objApart", fn := fun _ => fun
  | [d1, d2, d3] => { results := [.lit (.bool false)], args := [d1, d2, d3] }
  | _ => none }
def ObjApartWrongFalsely : Prop := objApartRow.holds Try.pinned (OpenSpec.ofChange objApartWrong)

/-- 'foliotlaw14.ObjSeals': WHATEVER THE INPUT: true; the input reads as it did. -/
def objSealsSpec : ChangeSpec := { name := "objSeals", fn := fun _ => fun
  | [d1, d2, d3, d4] => { results := [.lit (.bool true)], args := [d1, d2, d3, d4] }
  | _ => none }
def objSealsRow : OpenClaim := { program := "ytnlfdfjkgaanjaa", sum := "f6271f8132d8d44c0a062b348b120bf282d08c6378407545ca55949c63f5bd50", func := "foliot/foliotlaw14.ObjSeals", spec := "objSeals", plainKeys := false, apart := false }
def ObjSealsSaid : Prop := objSealsRow.holds Try.pinned (OpenSpec.ofChange objSealsSpec)

/-- ITS FALSE NEIGHBOUR: 'it returns false'. Refute it at one input. -/
def objSealsWrong : ChangeSpec := { name := "objSeals", fn := fun _ => fun
  | [d1, d2, d3, d4] => { results := [.lit (.bool false)], args := [d1, d2, d3, d4] }
  | _ => none }
def ObjSealsWrongFalsely : Prop := objSealsRow.holds Try.pinned (OpenSpec.ofChange objSealsWrong)

/- THE SECOND FORM. 'bulk': how many values and letters a reading holds, each counted each time it is reached (what is shared counts as often as it is met; a slice's spare places count too). A statement '..UptoSaid' is the law's where the arguments, and the package variables that the reading takes, are together of bulk at most 1048576: NARROWER than '..Said'. Prove '..Said' where nothing that the law and all that it calls make is longer than what came in: it says more and counts as full. Else prove '..UptoSaid'. A law counts once. -/
mutual
def uptoBulk {H : Type} : DataW H → Nat
  | .lit (.string bytes) => bytes.length + 1
  | .lit _ => 1
  | .nil => 1
  | .ptr d => uptoBulk d + 1
  | .slice elems spare => uptoBulkAll elems + uptoBulkAll spare + 1
  | .agg parts => uptoBulkAll parts + 1
  | .iface _ d => uptoBulk d + 1
  | .map entries => uptoBulkEntries entries + 1
  | .held _ => 1
def uptoBulkAll {H : Type} : List (DataW H) → Nat
  | [] => 0
  | d :: r => uptoBulk d + uptoBulkAll r
def uptoBulkEntries {H : Type} : List (Lit × DataW H) → Nat
  | [] => 0
  | x :: r => uptoBulkEntry x + uptoBulkEntries r
def uptoBulkEntry {H : Type} : Lit × DataW H → Nat
  | (.string bytes, d) => bytes.length + uptoBulk d + 1
  | (_, d) => uptoBulk d + 1
 end
def uptoSmall : (H : Type) → List (DataW H) → Bool := fun _ ds => decide (uptoBulkAll ds ≤ 1048576)
def OpenSpec.upto (s : _root_.Go.ChangeSpec) : _root_.Go.OpenSpec := { _root_.Go.OpenSpec.ofChange s with cond := some uptoSmall }

/-- 'foliotlaw9.PureAll', WHERE WHAT IT READS IS OF BULK AT MOST 1048576: true; the input reads as it did. -/
def pureAllUptoRow : OpenClaim := { program := "ytnlfdfjkgaanjaa", sum := "f6271f8132d8d44c0a062b348b120bf282d08c6378407545ca55949c63f5bd50", func := "foliot/foliotlaw9.PureAll", spec := "pureAll", unfollowed := true, recurses := true, plainKeys := false, apart := false, narrowed := true }
def PureAllUptoSaid : Prop := pureAllUptoRow.holds Try.pinned (OpenSpec.upto pureAllSpec)

/-- 'foliotlaw9.PureMarks', WHERE WHAT IT READS IS OF BULK AT MOST 1048576: true; the input reads as it did. -/
def pureMarksUptoRow : OpenClaim := { program := "ytnlfdfjkgaanjaa", sum := "f6271f8132d8d44c0a062b348b120bf282d08c6378407545ca55949c63f5bd50", func := "foliot/foliotlaw9.PureMarks", spec := "pureMarks", unfollowed := true, recurses := true, plainKeys := false, apart := false, narrowed := true }
def PureMarksUptoSaid : Prop := pureMarksUptoRow.holds Try.pinned (OpenSpec.upto pureMarksSpec)

/-- 'foliotlaw9.PureForms', WHERE WHAT IT READS IS OF BULK AT MOST 1048576: true; the input reads as it did. -/
def pureFormsUptoRow : OpenClaim := { program := "ytnlfdfjkgaanjaa", sum := "f6271f8132d8d44c0a062b348b120bf282d08c6378407545ca55949c63f5bd50", func := "foliot/foliotlaw9.PureForms", spec := "pureForms", unfollowed := true, recurses := true, plainKeys := false, apart := false, narrowed := true }
def PureFormsUptoSaid : Prop := pureFormsUptoRow.holds Try.pinned (OpenSpec.upto pureFormsSpec)

/-- 'foliotlaw9.PureAhead', WHERE WHAT IT READS IS OF BULK AT MOST 1048576: true; the input reads as it did. -/
def pureAheadUptoRow : OpenClaim := { program := "ytnlfdfjkgaanjaa", sum := "f6271f8132d8d44c0a062b348b120bf282d08c6378407545ca55949c63f5bd50", func := "foliot/foliotlaw9.PureAhead", spec := "pureAhead", unfollowed := true, recurses := true, plainKeys := false, apart := false, narrowed := true }
def PureAheadUptoSaid : Prop := pureAheadUptoRow.holds Try.pinned (OpenSpec.upto pureAheadSpec)

/-- 'foliotlaw9.PureLoops', WHERE WHAT IT READS IS OF BULK AT MOST 1048576: true; the input reads as it did. -/
def pureLoopsUptoRow : OpenClaim := { program := "ytnlfdfjkgaanjaa", sum := "f6271f8132d8d44c0a062b348b120bf282d08c6378407545ca55949c63f5bd50", func := "foliot/foliotlaw9.PureLoops", spec := "pureLoops", unfollowed := true, recurses := true, plainKeys := false, apart := false, narrowed := true }
def PureLoopsUptoSaid : Prop := pureLoopsUptoRow.holds Try.pinned (OpenSpec.upto pureLoopsSpec)

/-- 'foliotlaw14.ObjForms', WHERE WHAT IT READS IS OF BULK AT MOST 1048576: true; the input reads as it did. -/
def objFormsUptoRow : OpenClaim := { program := "ytnlfdfjkgaanjaa", sum := "f6271f8132d8d44c0a062b348b120bf282d08c6378407545ca55949c63f5bd50", func := "foliot/foliotlaw14.ObjForms", spec := "objForms", plainKeys := false, apart := false, narrowed := true }
def ObjFormsUptoSaid : Prop := objFormsUptoRow.holds Try.pinned (OpenSpec.upto objFormsSpec)

/-- 'foliotlaw14.ObjHandles', WHERE WHAT IT READS IS OF BULK AT MOST 1048576: true; the input reads as it did. -/
def objHandlesUptoRow : OpenClaim := { program := "ytnlfdfjkgaanjaa", sum := "f6271f8132d8d44c0a062b348b120bf282d08c6378407545ca55949c63f5bd50", func := "foliot/foliotlaw14.ObjHandles", spec := "objHandles", plainKeys := false, apart := false, narrowed := true }
def ObjHandlesUptoSaid : Prop := objHandlesUptoRow.holds Try.pinned (OpenSpec.upto objHandlesSpec)

/-- 'foliotlaw14.ObjApart', WHERE WHAT IT READS IS OF BULK AT MOST 1048576: true; the input reads as it did. -/
def objApartUptoRow : OpenClaim := { program := "ytnlfdfjkgaanjaa", sum := "f6271f8132d8d44c0a062b348b120bf282d08c6378407545ca55949c63f5bd50", func := "foliot/foliotlaw14.ObjApart", spec := "objApart", plainKeys := false, apart := false, narrowed := true }
def ObjApartUptoSaid : Prop := objApartUptoRow.holds Try.pinned (OpenSpec.upto objApartSpec)

/-- 'foliotlaw14.ObjSeals', WHERE WHAT IT READS IS OF BULK AT MOST 1048576: true; the input reads as it did. -/
def objSealsUptoRow : OpenClaim := { program := "ytnlfdfjkgaanjaa", sum := "f6271f8132d8d44c0a062b348b120bf282d08c6378407545ca55949c63f5bd50", func := "foliot/foliotlaw14.ObjSeals", spec := "objSeals", plainKeys := false, apart := false, narrowed := true }
def ObjSealsUptoSaid : Prop := objSealsUptoRow.holds Try.pinned (OpenSpec.upto objSealsSpec)

end Rows
end Go.Proofs.Ytnlfdfjkgaanjaa
