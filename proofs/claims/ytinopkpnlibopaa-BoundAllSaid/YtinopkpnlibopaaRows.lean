/-
  No cell of these rows narrows 'for every input' (looked for: loops, veiled, ifaces, maps, wideKeys, modest, calm, conditions, laid).
  DERIVED. THE GIVEN ROWS OF THIS SEAT. 11 by the template 'for every input the law returns true; each argument reads behind the call as it read before'; 0 by the template 'total and deterministic' (their statements: YtinopkpnlibopaaTotals.lean).
  GIVEN WITH THE SEED: the statements are not yours to turn. If you find one false, say at which input.
  Laid BY PROGRAM, IN A SANDBOX (cutbox-rows.mjs): the forced cells as the released guide's own fill.sh prints them over the translation 22fc10415f3f45c1… (all of the seat's roots in one cut). By AI agents, Wed Nov 11 2026. No macro, syntax, notation, axiom, sorry.
-/
import Derived.Test.YtinopkpnlibopaaChecked
import GoSem.Claim
import GoSem.ClaimJoined
import GoSem.ClaimMapViews
import Derived.JoinedTies
import Derived.KernelRfl
namespace Go.Proofs.Ytinopkpnlibopaa
/- THE CELL 'sum', in the pinned program and in every row, IS THE sha256 OF THE DUMP (.gsa) THAT YtinopkpnlibopaaProg.lean LOADS. Nothing in Lean hashes anything: it is a label: what it is worth is what the hold of that sum in a sandbox is worth. -/
noncomputable def Try.pinned : Pinned := { name := "ytinopkpnlibopaa", sum := "22fc10415f3f45c125f9f9fa989ea795043b0d9b5db359d8a4fb473f3b937fa7", checked := Try.checked }
namespace Rows
def none {H : Type} : Left H := { results := [], args := [] }

/-- 'foliotlaw17.BoundAll': WHATEVER THE INPUT: true; the input reads as it did. -/
def boundAllSpec : ChangeSpec := { name := "boundAll", fn := fun _ => fun
  | [d1, d2, d3] => { results := [.lit (.bool true)], args := [d1, d2, d3] }
  | _ => none }
def boundAllRow : OpenClaim := { program := "ytinopkpnlibopaa", sum := "22fc10415f3f45c125f9f9fa989ea795043b0d9b5db359d8a4fb473f3b937fa7", func := "foliot/foliotlaw17.BoundAll", spec := "boundAll", unfollowed := true, recurses := true, plainKeys := false, apart := false }
def BoundAllSaid : Prop := boundAllRow.holds Try.pinned (OpenSpec.ofChange boundAllSpec)

/-- ITS FALSE NEIGHBOUR: 'it returns false'. Refute it at one input. -/
def boundAllWrong : ChangeSpec := { name := "boundAll", fn := fun _ => fun
  | [d1, d2, d3] => { results := [.lit (.bool false)], args := [d1, d2, d3] }
  | _ => none }
def BoundAllWrongFalsely : Prop := boundAllRow.holds Try.pinned (OpenSpec.ofChange boundAllWrong)

/-- 'foliotlaw17.BoundLeast': WHATEVER THE INPUT: true; the input reads as it did. -/
def boundLeastSpec : ChangeSpec := { name := "boundLeast", fn := fun _ => fun
  | [d1, d2] => { results := [.lit (.bool true)], args := [d1, d2] }
  | _ => none }
def boundLeastRow : OpenClaim := { program := "ytinopkpnlibopaa", sum := "22fc10415f3f45c125f9f9fa989ea795043b0d9b5db359d8a4fb473f3b937fa7", func := "foliot/foliotlaw17.BoundLeast", spec := "boundLeast", unfollowed := true, recurses := true, plainKeys := false, apart := false }
def BoundLeastSaid : Prop := boundLeastRow.holds Try.pinned (OpenSpec.ofChange boundLeastSpec)

/-- ITS FALSE NEIGHBOUR: 'it returns false'. Refute it at one input. -/
def boundLeastWrong : ChangeSpec := { name := "boundLeast", fn := fun _ => fun
  | [d1, d2] => { results := [.lit (.bool false)], args := [d1, d2] }
  | _ => none }
def BoundLeastWrongFalsely : Prop := boundLeastRow.holds Try.pinned (OpenSpec.ofChange boundLeastWrong)

/-- 'foliotlaw17.BoundRises': WHATEVER THE INPUT: true; the input reads as it did. -/
def boundRisesSpec : ChangeSpec := { name := "boundRises", fn := fun _ => fun
  | [d1, d2, d3] => { results := [.lit (.bool true)], args := [d1, d2, d3] }
  | _ => none }
def boundRisesRow : OpenClaim := { program := "ytinopkpnlibopaa", sum := "22fc10415f3f45c125f9f9fa989ea795043b0d9b5db359d8a4fb473f3b937fa7", func := "foliot/foliotlaw17.BoundRises", spec := "boundRises", unfollowed := true, recurses := true, plainKeys := false, apart := false }
def BoundRisesSaid : Prop := boundRisesRow.holds Try.pinned (OpenSpec.ofChange boundRisesSpec)

/-- ITS FALSE NEIGHBOUR: 'it returns false'. Refute it at one input. -/
def boundRisesWrong : ChangeSpec := { name := "boundRises", fn := fun _ => fun
  | [d1, d2, d3] => { results := [.lit (.bool false)], args := [d1, d2, d3] }
  | _ => none }
def BoundRisesWrongFalsely : Prop := boundRisesRow.holds Try.pinned (OpenSpec.ofChange boundRisesWrong)

/-- 'foliotlaw17.BoundForms': WHATEVER THE INPUT: true; the input reads as it did. -/
def boundFormsSpec : ChangeSpec := { name := "boundForms", fn := fun _ => fun
  | [] => { results := [.lit (.bool true)], args := [] }
  | _ => none }
def boundFormsRow : OpenClaim := { program := "ytinopkpnlibopaa", sum := "22fc10415f3f45c125f9f9fa989ea795043b0d9b5db359d8a4fb473f3b937fa7", func := "foliot/foliotlaw17.BoundForms", spec := "boundForms", unfollowed := true, recurses := true, plainKeys := false, apart := false }
def BoundFormsSaid : Prop := boundFormsRow.holds Try.pinned (OpenSpec.ofChange boundFormsSpec)

/-- ITS FALSE NEIGHBOUR: 'it returns false'. Refute it at one input. -/
def boundFormsWrong : ChangeSpec := { name := "boundForms", fn := fun _ => fun
  | [] => { results := [.lit (.bool false)], args := [] }
  | _ => none }
def BoundFormsWrongFalsely : Prop := boundFormsRow.holds Try.pinned (OpenSpec.ofChange boundFormsWrong)

/-- 'foliotlaw17.BoundAlone': WHATEVER THE INPUT: true; the input reads as it did. -/
def boundAloneSpec : ChangeSpec := { name := "boundAlone", fn := fun _ => fun
  | [d1, d2] => { results := [.lit (.bool true)], args := [d1, d2] }
  | _ => none }
def boundAloneRow : OpenClaim := { program := "ytinopkpnlibopaa", sum := "22fc10415f3f45c125f9f9fa989ea795043b0d9b5db359d8a4fb473f3b937fa7", func := "foliot/foliotlaw17.BoundAlone", spec := "boundAlone", unfollowed := true, recurses := true, plainKeys := false, apart := false }
def BoundAloneSaid : Prop := boundAloneRow.holds Try.pinned (OpenSpec.ofChange boundAloneSpec)

/-- ITS FALSE NEIGHBOUR: 'it returns false'. Refute it at one input. -/
def boundAloneWrong : ChangeSpec := { name := "boundAlone", fn := fun _ => fun
  | [d1, d2] => { results := [.lit (.bool false)], args := [d1, d2] }
  | _ => none }
def BoundAloneWrongFalsely : Prop := boundAloneRow.holds Try.pinned (OpenSpec.ofChange boundAloneWrong)

/-- 'foliotlaw17.BoundStart': WHATEVER THE INPUT: true; the input reads as it did. -/
def boundStartSpec : ChangeSpec := { name := "boundStart", fn := fun _ => fun
  | [d1, d2] => { results := [.lit (.bool true)], args := [d1, d2] }
  | _ => none }
def boundStartRow : OpenClaim := { program := "ytinopkpnlibopaa", sum := "22fc10415f3f45c125f9f9fa989ea795043b0d9b5db359d8a4fb473f3b937fa7", func := "foliot/foliotlaw17.BoundStart", spec := "boundStart", unfollowed := true, recurses := true, plainKeys := false, apart := false }
def BoundStartSaid : Prop := boundStartRow.holds Try.pinned (OpenSpec.ofChange boundStartSpec)

/-- ITS FALSE NEIGHBOUR: 'it returns false'. Refute it at one input. -/
def boundStartWrong : ChangeSpec := { name := "boundStart", fn := fun _ => fun
  | [d1, d2] => { results := [.lit (.bool false)], args := [d1, d2] }
  | _ => none }
def BoundStartWrongFalsely : Prop := boundStartRow.holds Try.pinned (OpenSpec.ofChange boundStartWrong)

/-- 'foliotlaw18.AdmitAll': WHATEVER THE INPUT: true; the input reads as it did. -/
def admitAllSpec : ChangeSpec := { name := "admitAll", fn := fun _ => fun
  | [d1, d2, d3] => { results := [.lit (.bool true)], args := [d1, d2, d3] }
  | _ => none }
def admitAllRow : OpenClaim := { program := "ytinopkpnlibopaa", sum := "22fc10415f3f45c125f9f9fa989ea795043b0d9b5db359d8a4fb473f3b937fa7", func := "foliot/foliotlaw18.AdmitAll", spec := "admitAll", inPlace := ["slices.overlaps[foliot/api.Task]"], unfollowed := true, recurses := true, plainKeys := false, apart := false }
def AdmitAllSaid : Prop := admitAllRow.holds Try.pinned (OpenSpec.ofChange admitAllSpec)

/-- ITS FALSE NEIGHBOUR: 'it returns false'. Refute it at one input. -/
def admitAllWrong : ChangeSpec := { name := "admitAll", fn := fun _ => fun
  | [d1, d2, d3] => { results := [.lit (.bool false)], args := [d1, d2, d3] }
  | _ => none }
def AdmitAllWrongFalsely : Prop := admitAllRow.holds Try.pinned (OpenSpec.ofChange admitAllWrong)

/-- 'foliotlaw18.AdmitOrder': WHATEVER THE INPUT: true; the input reads as it did. -/
def admitOrderSpec : ChangeSpec := { name := "admitOrder", fn := fun _ => fun
  | [d1, d2] => { results := [.lit (.bool true)], args := [d1, d2] }
  | _ => none }
def admitOrderRow : OpenClaim := { program := "ytinopkpnlibopaa", sum := "22fc10415f3f45c125f9f9fa989ea795043b0d9b5db359d8a4fb473f3b937fa7", func := "foliot/foliotlaw18.AdmitOrder", spec := "admitOrder", inPlace := ["slices.overlaps[foliot/api.Task]"], unfollowed := true, recurses := true, plainKeys := false, apart := false }
def AdmitOrderSaid : Prop := admitOrderRow.holds Try.pinned (OpenSpec.ofChange admitOrderSpec)

/-- ITS FALSE NEIGHBOUR: 'it returns false'. Refute it at one input. -/
def admitOrderWrong : ChangeSpec := { name := "admitOrder", fn := fun _ => fun
  | [d1, d2] => { results := [.lit (.bool false)], args := [d1, d2] }
  | _ => none }
def AdmitOrderWrongFalsely : Prop := admitOrderRow.holds Try.pinned (OpenSpec.ofChange admitOrderWrong)

/-- 'foliotlaw18.AdmitForms': WHATEVER THE INPUT: true; the input reads as it did. -/
def admitFormsSpec : ChangeSpec := { name := "admitForms", fn := fun _ => fun
  | [] => { results := [.lit (.bool true)], args := [] }
  | _ => none }
def admitFormsRow : OpenClaim := { program := "ytinopkpnlibopaa", sum := "22fc10415f3f45c125f9f9fa989ea795043b0d9b5db359d8a4fb473f3b937fa7", func := "foliot/foliotlaw18.AdmitForms", spec := "admitForms", inPlace := ["slices.overlaps[foliot/api.Task]"], unfollowed := true, recurses := true, plainKeys := false, apart := false }
def AdmitFormsSaid : Prop := admitFormsRow.holds Try.pinned (OpenSpec.ofChange admitFormsSpec)

/-- ITS FALSE NEIGHBOUR: 'it returns false'. Refute it at one input. -/
def admitFormsWrong : ChangeSpec := { name := "admitForms", fn := fun _ => fun
  | [] => { results := [.lit (.bool false)], args := [] }
  | _ => none }
def AdmitFormsWrongFalsely : Prop := admitFormsRow.holds Try.pinned (OpenSpec.ofChange admitFormsWrong)

/-- 'foliotlaw18.AdmitLess': WHATEVER THE INPUT: true; the input reads as it did. -/
def admitLessSpec : ChangeSpec := { name := "admitLess", fn := fun _ => fun
  | [d1, d2, d3] => { results := [.lit (.bool true)], args := [d1, d2, d3] }
  | _ => none }
def admitLessRow : OpenClaim := { program := "ytinopkpnlibopaa", sum := "22fc10415f3f45c125f9f9fa989ea795043b0d9b5db359d8a4fb473f3b937fa7", func := "foliot/foliotlaw18.AdmitLess", spec := "admitLess", inPlace := ["slices.overlaps[foliot/api.Task]"], unfollowed := true, recurses := true, plainKeys := false, apart := false }
def AdmitLessSaid : Prop := admitLessRow.holds Try.pinned (OpenSpec.ofChange admitLessSpec)

/-- ITS FALSE NEIGHBOUR: 'it returns false'. Refute it at one input. -/
def admitLessWrong : ChangeSpec := { name := "admitLess", fn := fun _ => fun
  | [d1, d2, d3] => { results := [.lit (.bool false)], args := [d1, d2, d3] }
  | _ => none }
def AdmitLessWrongFalsely : Prop := admitLessRow.holds Try.pinned (OpenSpec.ofChange admitLessWrong)

/-- 'foliotlaw18.AdmitRank': WHATEVER THE INPUT: true; the input reads as it did. -/
def admitRankSpec : ChangeSpec := { name := "admitRank", fn := fun _ => fun
  | [d1, d2] => { results := [.lit (.bool true)], args := [d1, d2] }
  | _ => none }
def admitRankRow : OpenClaim := { program := "ytinopkpnlibopaa", sum := "22fc10415f3f45c125f9f9fa989ea795043b0d9b5db359d8a4fb473f3b937fa7", func := "foliot/foliotlaw18.AdmitRank", spec := "admitRank", inPlace := ["slices.overlaps[foliot/api.Task]"], unfollowed := true, recurses := true, plainKeys := false, apart := false }
def AdmitRankSaid : Prop := admitRankRow.holds Try.pinned (OpenSpec.ofChange admitRankSpec)

/-- ITS FALSE NEIGHBOUR: 'it returns false'. Refute it at one input. -/
def admitRankWrong : ChangeSpec := { name := "admitRank", fn := fun _ => fun
  | [d1, d2] => { results := [.lit (.bool false)], args := [d1, d2] }
  | _ => none }
def AdmitRankWrongFalsely : Prop := admitRankRow.holds Try.pinned (OpenSpec.ofChange admitRankWrong)

/- THE SECOND FORM. 'bulk': how many values and letters a reading holds, each counted each time it is reached (what is shared counts as often as it is met; a slice's spare places count too). A statement '..UptoSaid' is the law's where the arguments, and the package variables that the reading takes, are together of bulk at most 1048576: NARROWER than '..Said'. Prove '..Said' where nothing that the law and all that it calls make is longer than what came in: it says more and counts as full. Else prove '..UptoSaid'. A law counts once. -/
mutual
def uptoBulk {H : Type} : DataW H → Nat
  | .lit (.string bytes) => bytes.length + 1
  | .lit _ => 1
  | .nil => 1
  | .ptr d => uptoBulk d + 1
  | .slice elems spare => uptoBulkAll elems + uptoBulkAll spare + 1
  | .agg parts => uptoBulkAll parts + 1
  | .iface _ d => uptoBulk d + 1
  | .map entries => uptoBulkEntries entries + 1
  | .held _ => 1
def uptoBulkAll {H : Type} : List (DataW H) → Nat
  | [] => 0
  | d :: r => uptoBulk d + uptoBulkAll r
def uptoBulkEntries {H : Type} : List (Lit × DataW H) → Nat
  | [] => 0
  | x :: r => uptoBulkEntry x + uptoBulkEntries r
def uptoBulkEntry {H : Type} : Lit × DataW H → Nat
  | (.string bytes, d) => bytes.length + uptoBulk d + 1
  | (_, d) => uptoBulk d + 1
 end
def uptoSmall : (H : Type) → List (DataW H) → Bool := fun _ ds => decide (uptoBulkAll ds ≤ 1048576)
def OpenSpec.upto (s : _root_.Go.ChangeSpec) : _root_.Go.OpenSpec := { _root_.Go.OpenSpec.ofChange s with cond := some uptoSmall }

/-- 'foliotlaw17.BoundAll', WHERE WHAT IT READS IS OF BULK AT MOST 1048576: true; the input reads as it did. -/
def boundAllUptoRow : OpenClaim := { program := "ytinopkpnlibopaa", sum := "22fc10415f3f45c125f9f9fa989ea795043b0d9b5db359d8a4fb473f3b937fa7", func := "foliot/foliotlaw17.BoundAll", spec := "boundAll", unfollowed := true, recurses := true, plainKeys := false, apart := false, narrowed := true }
def BoundAllUptoSaid : Prop := boundAllUptoRow.holds Try.pinned (OpenSpec.upto boundAllSpec)

/-- 'foliotlaw17.BoundLeast', WHERE WHAT IT READS IS OF BULK AT MOST 1048576: true; the input reads as it did. -/
def boundLeastUptoRow : OpenClaim := { program := "ytinopkpnlibopaa", sum := "22fc10415f3f45c125f9f9fa989ea795043b0d9b5db359d8a4fb473f3b937fa7", func := "foliot/foliotlaw17.BoundLeast", spec := "boundLeast", unfollowed := true, recurses := true, plainKeys := false, apart := false, narrowed := true }
def BoundLeastUptoSaid : Prop := boundLeastUptoRow.holds Try.pinned (OpenSpec.upto boundLeastSpec)

/-- 'foliotlaw17.BoundRises', WHERE WHAT IT READS IS OF BULK AT MOST 1048576: true; the input reads as it did. -/
def boundRisesUptoRow : OpenClaim := { program := "ytinopkpnlibopaa", sum := "22fc10415f3f45c125f9f9fa989ea795043b0d9b5db359d8a4fb473f3b937fa7", func := "foliot/foliotlaw17.BoundRises", spec := "boundRises", unfollowed := true, recurses := true, plainKeys := false, apart := false, narrowed := true }
def BoundRisesUptoSaid : Prop := boundRisesUptoRow.holds Try.pinned (OpenSpec.upto boundRisesSpec)

/-- 'foliotlaw17.BoundForms', WHERE WHAT IT READS IS OF BULK AT MOST 1048576: true; the input reads as it did. -/
def boundFormsUptoRow : OpenClaim := { program := "ytinopkpnlibopaa", sum := "22fc10415f3f45c125f9f9fa989ea795043b0d9b5db359d8a4fb473f3b937fa7", func := "foliot/foliotlaw17.BoundForms", spec := "boundForms", unfollowed := true, recurses := true, plainKeys := false, apart := false, narrowed := true }
def BoundFormsUptoSaid : Prop := boundFormsUptoRow.holds Try.pinned (OpenSpec.upto boundFormsSpec)

/-- 'foliotlaw17.BoundAlone', WHERE WHAT IT READS IS OF BULK AT MOST 1048576: true; the input reads as it did. -/
def boundAloneUptoRow : OpenClaim := { program := "ytinopkpnlibopaa", sum := "22fc10415f3f45c125f9f9fa989ea795043b0d9b5db359d8a4fb473f3b937fa7", func := "foliot/foliotlaw17.BoundAlone", spec := "boundAlone", unfollowed := true, recurses := true, plainKeys := false, apart := false, narrowed := true }
def BoundAloneUptoSaid : Prop := boundAloneUptoRow.holds Try.pinned (OpenSpec.upto boundAloneSpec)

/-- 'foliotlaw17.BoundStart', WHERE WHAT IT READS IS OF BULK AT MOST 1048576: true; the input reads as it did. -/
def boundStartUptoRow : OpenClaim := { program := "ytinopkpnlibopaa", sum := "22fc10415f3f45c125f9f9fa989ea795043b0d9b5db359d8a4fb473f3b937fa7", func := "foliot/foliotlaw17.BoundStart", spec := "boundStart", unfollowed := true, recurses := true, plainKeys := false, apart := false, narrowed := true }
def BoundStartUptoSaid : Prop := boundStartUptoRow.holds Try.pinned (OpenSpec.upto boundStartSpec)

/-- 'foliotlaw18.AdmitAll', WHERE WHAT IT READS IS OF BULK AT MOST 1048576: true; the input reads as it did. -/
def admitAllUptoRow : OpenClaim := { program := "ytinopkpnlibopaa", sum := "22fc10415f3f45c125f9f9fa989ea795043b0d9b5db359d8a4fb473f3b937fa7", func := "foliot/foliotlaw18.AdmitAll", spec := "admitAll", inPlace := ["slices.overlaps[foliot/api.Task]"], unfollowed := true, recurses := true, plainKeys := false, apart := false, narrowed := true }
def AdmitAllUptoSaid : Prop := admitAllUptoRow.holds Try.pinned (OpenSpec.upto admitAllSpec)

/-- 'foliotlaw18.AdmitOrder', WHERE WHAT IT READS IS OF BULK AT MOST 1048576: true; the input reads as it did. -/
def admitOrderUptoRow : OpenClaim := { program := "ytinopkpnlibopaa", sum := "22fc10415f3f45c125f9f9fa989ea795043b0d9b5db359d8a4fb473f3b937fa7", func := "foliot/foliotlaw18.AdmitOrder", spec := "admitOrder", inPlace := ["slices.overlaps[foliot/api.Task]"], unfollowed := true, recurses := true, plainKeys := false, apart := false, narrowed := true }
def AdmitOrderUptoSaid : Prop := admitOrderUptoRow.holds Try.pinned (OpenSpec.upto admitOrderSpec)

/-- 'foliotlaw18.AdmitForms', WHERE WHAT IT READS IS OF BULK AT MOST 1048576: true; the input reads as it did. -/
def admitFormsUptoRow : OpenClaim := { program := "ytinopkpnlibopaa", sum := "22fc10415f3f45c125f9f9fa989ea795043b0d9b5db359d8a4fb473f3b937fa7", func := "foliot/foliotlaw18.AdmitForms", spec := "admitForms", inPlace := ["slices.overlaps[foliot/api.Task]"], unfollowed := true, recurses := true, plainKeys := false, apart := false, narrowed := true }
def AdmitFormsUptoSaid : Prop := admitFormsUptoRow.holds Try.pinned (OpenSpec.upto admitFormsSpec)

/-- 'foliotlaw18.AdmitLess', WHERE WHAT IT READS IS OF BULK AT MOST 1048576: true; the input reads as it did. -/
def admitLessUptoRow : OpenClaim := { program := "ytinopkpnlibopaa", sum := "22fc10415f3f45c125f9f9fa989ea795043b0d9b5db359d8a4fb473f3b937fa7", func := "foliot/foliotlaw18.AdmitLess", spec := "admitLess", inPlace := ["slices.overlaps[foliot/api.Task]"], unfollowed := true, recurses := true, plainKeys := false, apart := false, narrowed := true }
def AdmitLessUptoSaid : Prop := admitLessUptoRow.holds Try.pinned (OpenSpec.upto admitLessSpec)

/-- 'foliotlaw18.AdmitRank', WHERE WHAT IT READS IS OF BULK AT MOST 1048576: true; the input reads as it did. -/
def admitRankUptoRow : OpenClaim := { program := "ytinopkpnlibopaa", sum := "22fc10415f3f45c125f9f9fa989ea795043b0d9b5db359d8a4fb473f3b937fa7", func := "foliot/foliotlaw18.AdmitRank", spec := "admitRank", inPlace := ["slices.overlaps[foliot/api.Task]"], unfollowed := true, recurses := true, plainKeys := false, apart := false, narrowed := true }
def AdmitRankUptoSaid : Prop := admitRankUptoRow.holds Try.pinned (OpenSpec.upto admitRankSpec)

end Rows
end Go.Proofs.Ytinopkpnlibopaa
