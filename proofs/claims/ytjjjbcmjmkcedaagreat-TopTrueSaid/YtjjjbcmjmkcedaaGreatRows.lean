/-
  No cell of these rows narrows 'for every input' (looked for: loops, veiled, ifaces, maps, wideKeys, modest, calm, conditions, laid).
  DERIVED. THE GIVEN ROWS OF THIS SEAT. 12 by the template 'for every input the law returns true; each argument reads behind the call as it read before'; 0 by the template 'total and deterministic' (their statements: YtjjjbcmjmkcedaaGreatTotals.lean).
  GIVEN WITH THE SEED: the statements are not yours to turn. If you find one false, say at which input.
  Laid BY PROGRAM, IN A SANDBOX (cutbox-rows.mjs): the forced cells as the released guide's own fill.sh prints them over the translation 1b4afa8d49d68923… (all of the seat's roots in one cut). By AI agents, Wed Nov 11 2026. No macro, syntax, notation, axiom, sorry.
-/
import Derived.Test.YtjjjbcmjmkcedaaGreatChecked
import GoSem.Claim
import GoSem.ClaimJoined
import GoSem.ClaimMapViews
import Derived.JoinedTies
import Derived.KernelRfl
namespace Go.Proofs.YtjjjbcmjmkcedaaGreat
/- THE CELL 'sum', in the pinned program and in every row, IS THE sha256 OF THE DUMP (.gsa) THAT YtjjjbcmjmkcedaaGreatProg.lean LOADS. Nothing in Lean hashes anything: it is a label: what it is worth is what the hold of that sum in a sandbox is worth. -/
noncomputable def Tryz.pinned : Pinned := { name := "ytjjjbcmjmkcedaagreat", sum := "1b4afa8d49d68923703555cfdf641cae7b1c6fcdfd6c44cf7a25f3f3f9c70437", checked := Tryz.checked }
namespace Rows
def none {H : Type} : Left H := { results := [], args := [] }

/-- 'foliottop.TopOnce': WHATEVER THE INPUT: true; the input reads as it did. -/
def topOnceSpec : ChangeSpec := { name := "topOnce", fn := fun _ => fun
  | [d1, d2] => { results := [.lit (.bool true)], args := [d1, d2] }
  | _ => none }
def topOnceRow : OpenClaim := { program := "ytjjjbcmjmkcedaagreat", sum := "1b4afa8d49d68923703555cfdf641cae7b1c6fcdfd6c44cf7a25f3f3f9c70437", func := "foliot/foliottop.TopOnce", spec := "topOnce", inPlace := ["slices.overlaps[foliot/api.Task]", "slices.overlaps[foliot/api.Job]"], unfollowed := true, recurses := true, plainKeys := false, apart := false }
def TopOnceSaid : Prop := topOnceRow.holds Tryz.pinned (OpenSpec.ofChange topOnceSpec)

/-- ITS FALSE NEIGHBOUR: 'it returns false'. Refute it at one input. -/
def topOnceWrong : ChangeSpec := { name := "topOnce", fn := fun _ => fun
  | [d1, d2] => { results := [.lit (.bool false)], args := [d1, d2] }
  | _ => none }
def TopOnceWrongFalsely : Prop := topOnceRow.holds Tryz.pinned (OpenSpec.ofChange topOnceWrong)

/-- 'foliotlaw24.KernTicks': WHATEVER THE INPUT: true; the input reads as it did. -/
def kernTicksSpec : ChangeSpec := { name := "kernTicks", fn := fun _ => fun
  | [d1, d2, d3] => { results := [.lit (.bool true)], args := [d1, d2, d3] }
  | _ => none }
def kernTicksRow : OpenClaim := { program := "ytjjjbcmjmkcedaagreat", sum := "1b4afa8d49d68923703555cfdf641cae7b1c6fcdfd6c44cf7a25f3f3f9c70437", func := "foliot/foliotlaw24.KernTicks", spec := "kernTicks", inPlace := ["slices.overlaps[foliot/api.Job]"], unfollowed := true, recurses := true, plainKeys := false, apart := false }
def KernTicksSaid : Prop := kernTicksRow.holds Tryz.pinned (OpenSpec.ofChange kernTicksSpec)

/-- ITS FALSE NEIGHBOUR: 'it returns false'. Refute it at one input. -/
def kernTicksWrong : ChangeSpec := { name := "kernTicks", fn := fun _ => fun
  | [d1, d2, d3] => { results := [.lit (.bool false)], args := [d1, d2, d3] }
  | _ => none }
def KernTicksWrongFalsely : Prop := kernTicksRow.holds Tryz.pinned (OpenSpec.ofChange kernTicksWrong)

/-- 'foliotlaw25.CallAll': WHATEVER THE INPUT: true; the input reads as it did. -/
def callAllSpec : ChangeSpec := { name := "callAll", fn := fun _ => fun
  | [d1, d2, d3] => { results := [.lit (.bool true)], args := [d1, d2, d3] }
  | _ => none }
def callAllRow : OpenClaim := { program := "ytjjjbcmjmkcedaagreat", sum := "1b4afa8d49d68923703555cfdf641cae7b1c6fcdfd6c44cf7a25f3f3f9c70437", func := "foliot/foliotlaw25.CallAll", spec := "callAll", inPlace := ["slices.overlaps[foliot/api.Task]", "slices.overlaps[foliot/api.Job]"], unfollowed := true, recurses := true, plainKeys := false, apart := false }
def CallAllSaid : Prop := callAllRow.holds Tryz.pinned (OpenSpec.ofChange callAllSpec)

/-- ITS FALSE NEIGHBOUR: 'it returns false'. Refute it at one input. -/
def callAllWrong : ChangeSpec := { name := "callAll", fn := fun _ => fun
  | [d1, d2, d3] => { results := [.lit (.bool false)], args := [d1, d2, d3] }
  | _ => none }
def CallAllWrongFalsely : Prop := callAllRow.holds Tryz.pinned (OpenSpec.ofChange callAllWrong)

/-- 'foliotlaw25.CallWrong': WHATEVER THE INPUT: true; the input reads as it did. -/
def callWrongSpec : ChangeSpec := { name := "callWrong", fn := fun _ => fun
  | [d1, d2, d3] => { results := [.lit (.bool true)], args := [d1, d2, d3] }
  | _ => none }
def callWrongRow : OpenClaim := { program := "ytjjjbcmjmkcedaagreat", sum := "1b4afa8d49d68923703555cfdf641cae7b1c6fcdfd6c44cf7a25f3f3f9c70437", func := "foliot/foliotlaw25.CallWrong", spec := "callWrong", inPlace := ["slices.overlaps[foliot/api.Task]", "slices.overlaps[foliot/api.Job]"], unfollowed := true, recurses := true, plainKeys := false, apart := false }
def CallWrongSaid : Prop := callWrongRow.holds Tryz.pinned (OpenSpec.ofChange callWrongSpec)

/-- ITS FALSE NEIGHBOUR: 'it returns false'. Refute it at one input. -/
def callWrongWrong : ChangeSpec := { name := "callWrong", fn := fun _ => fun
  | [d1, d2, d3] => { results := [.lit (.bool false)], args := [d1, d2, d3] }
  | _ => none }
def CallWrongWrongFalsely : Prop := callWrongRow.holds Tryz.pinned (OpenSpec.ofChange callWrongWrong)

/-- 'foliotlaw26.TrialAll': WHATEVER THE INPUT: true; the input reads as it did. -/
def trialAllSpec : ChangeSpec := { name := "trialAll", fn := fun _ => fun
  | [d1, d2, d3, d4] => { results := [.lit (.bool true)], args := [d1, d2, d3, d4] }
  | _ => none }
def trialAllRow : OpenClaim := { program := "ytjjjbcmjmkcedaagreat", sum := "1b4afa8d49d68923703555cfdf641cae7b1c6fcdfd6c44cf7a25f3f3f9c70437", func := "foliot/foliotlaw26.TrialAll", spec := "trialAll", inPlace := ["slices.overlaps[foliot/api.Task]", "slices.overlaps[foliot/api.Job]"], unfollowed := true, recurses := true, plainKeys := false, apart := false }
def TrialAllSaid : Prop := trialAllRow.holds Tryz.pinned (OpenSpec.ofChange trialAllSpec)

/-- ITS FALSE NEIGHBOUR: 'it returns false'. Refute it at one input. -/
def trialAllWrong : ChangeSpec := { name := "trialAll", fn := fun _ => fun
  | [d1, d2, d3, d4] => { results := [.lit (.bool false)], args := [d1, d2, d3, d4] }
  | _ => none }
def TrialAllWrongFalsely : Prop := trialAllRow.holds Tryz.pinned (OpenSpec.ofChange trialAllWrong)

/-- 'foliotlaw26.TrialWhole': WHATEVER THE INPUT: true; the input reads as it did. -/
def trialWholeSpec : ChangeSpec := { name := "trialWhole", fn := fun _ => fun
  | [d1, d2, d3] => { results := [.lit (.bool true)], args := [d1, d2, d3] }
  | _ => none }
def trialWholeRow : OpenClaim := { program := "ytjjjbcmjmkcedaagreat", sum := "1b4afa8d49d68923703555cfdf641cae7b1c6fcdfd6c44cf7a25f3f3f9c70437", func := "foliot/foliotlaw26.TrialWhole", spec := "trialWhole", inPlace := ["slices.overlaps[foliot/api.Task]", "slices.overlaps[foliot/api.Job]"], unfollowed := true, recurses := true, plainKeys := false, apart := false }
def TrialWholeSaid : Prop := trialWholeRow.holds Tryz.pinned (OpenSpec.ofChange trialWholeSpec)

/-- ITS FALSE NEIGHBOUR: 'it returns false'. Refute it at one input. -/
def trialWholeWrong : ChangeSpec := { name := "trialWhole", fn := fun _ => fun
  | [d1, d2, d3] => { results := [.lit (.bool false)], args := [d1, d2, d3] }
  | _ => none }
def TrialWholeWrongFalsely : Prop := trialWholeRow.holds Tryz.pinned (OpenSpec.ofChange trialWholeWrong)

/-- 'foliotlaw26.TrialParts': WHATEVER THE INPUT: true; the input reads as it did. -/
def trialPartsSpec : ChangeSpec := { name := "trialParts", fn := fun _ => fun
  | [d1, d2, d3] => { results := [.lit (.bool true)], args := [d1, d2, d3] }
  | _ => none }
def trialPartsRow : OpenClaim := { program := "ytjjjbcmjmkcedaagreat", sum := "1b4afa8d49d68923703555cfdf641cae7b1c6fcdfd6c44cf7a25f3f3f9c70437", func := "foliot/foliotlaw26.TrialParts", spec := "trialParts", inPlace := ["slices.overlaps[foliot/api.Task]", "slices.overlaps[foliot/api.Job]"], unfollowed := true, recurses := true, plainKeys := false, apart := false }
def TrialPartsSaid : Prop := trialPartsRow.holds Tryz.pinned (OpenSpec.ofChange trialPartsSpec)

/-- ITS FALSE NEIGHBOUR: 'it returns false'. Refute it at one input. -/
def trialPartsWrong : ChangeSpec := { name := "trialParts", fn := fun _ => fun
  | [d1, d2, d3] => { results := [.lit (.bool false)], args := [d1, d2, d3] }
  | _ => none }
def TrialPartsWrongFalsely : Prop := trialPartsRow.holds Tryz.pinned (OpenSpec.ofChange trialPartsWrong)

/-- 'foliotlaw26.TrialHeld': WHATEVER THE INPUT: true; the input reads as it did. -/
def trialHeldSpec : ChangeSpec := { name := "trialHeld", fn := fun _ => fun
  | [d1, d2] => { results := [.lit (.bool true)], args := [d1, d2] }
  | _ => none }
def trialHeldRow : OpenClaim := { program := "ytjjjbcmjmkcedaagreat", sum := "1b4afa8d49d68923703555cfdf641cae7b1c6fcdfd6c44cf7a25f3f3f9c70437", func := "foliot/foliotlaw26.TrialHeld", spec := "trialHeld", inPlace := ["slices.overlaps[foliot/api.Task]", "slices.overlaps[foliot/api.Job]"], unfollowed := true, recurses := true, plainKeys := false, apart := false }
def TrialHeldSaid : Prop := trialHeldRow.holds Tryz.pinned (OpenSpec.ofChange trialHeldSpec)

/-- ITS FALSE NEIGHBOUR: 'it returns false'. Refute it at one input. -/
def trialHeldWrong : ChangeSpec := { name := "trialHeld", fn := fun _ => fun
  | [d1, d2] => { results := [.lit (.bool false)], args := [d1, d2] }
  | _ => none }
def TrialHeldWrongFalsely : Prop := trialHeldRow.holds Tryz.pinned (OpenSpec.ofChange trialHeldWrong)

/-- 'foliottop.TopSame': WHATEVER THE INPUT: true; the input reads as it did. -/
def topSameSpec : ChangeSpec := { name := "topSame", fn := fun _ => fun
  | [d1, d2, d3] => { results := [.lit (.bool true)], args := [d1, d2, d3] }
  | _ => none }
def topSameRow : OpenClaim := { program := "ytjjjbcmjmkcedaagreat", sum := "1b4afa8d49d68923703555cfdf641cae7b1c6fcdfd6c44cf7a25f3f3f9c70437", func := "foliot/foliottop.TopSame", spec := "topSame", inPlace := ["slices.overlaps[foliot/api.Task]", "slices.overlaps[foliot/api.Job]"], unfollowed := true, recurses := true, plainKeys := false, apart := false }
def TopSameSaid : Prop := topSameRow.holds Tryz.pinned (OpenSpec.ofChange topSameSpec)

/-- ITS FALSE NEIGHBOUR: 'it returns false'. Refute it at one input. -/
def topSameWrong : ChangeSpec := { name := "topSame", fn := fun _ => fun
  | [d1, d2, d3] => { results := [.lit (.bool false)], args := [d1, d2, d3] }
  | _ => none }
def TopSameWrongFalsely : Prop := topSameRow.holds Tryz.pinned (OpenSpec.ofChange topSameWrong)

/-- 'foliottop.TopTrue': WHATEVER THE INPUT: true; the input reads as it did. -/
def topTrueSpec : ChangeSpec := { name := "topTrue", fn := fun _ => fun
  | [d1, d2] => { results := [.lit (.bool true)], args := [d1, d2] }
  | _ => none }
def topTrueRow : OpenClaim := { program := "ytjjjbcmjmkcedaagreat", sum := "1b4afa8d49d68923703555cfdf641cae7b1c6fcdfd6c44cf7a25f3f3f9c70437", func := "foliot/foliottop.TopTrue", spec := "topTrue", inPlace := ["slices.overlaps[foliot/api.Task]", "slices.overlaps[foliot/api.Job]"], unfollowed := true, recurses := true, plainKeys := false, apart := false }
def TopTrueSaid : Prop := topTrueRow.holds Tryz.pinned (OpenSpec.ofChange topTrueSpec)

/-- ITS FALSE NEIGHBOUR: 'it returns false'. Refute it at one input. -/
def topTrueWrong : ChangeSpec := { name := "topTrue", fn := fun _ => fun
  | [d1, d2] => { results := [.lit (.bool false)], args := [d1, d2] }
  | _ => none }
def TopTrueWrongFalsely : Prop := topTrueRow.holds Tryz.pinned (OpenSpec.ofChange topTrueWrong)

/-- 'foliottop.TopSaid': WHATEVER THE INPUT: true; the input reads as it did. -/
def topSaidSpec : ChangeSpec := { name := "topSaid", fn := fun _ => fun
  | [d1, d2, d3] => { results := [.lit (.bool true)], args := [d1, d2, d3] }
  | _ => none }
def topSaidRow : OpenClaim := { program := "ytjjjbcmjmkcedaagreat", sum := "1b4afa8d49d68923703555cfdf641cae7b1c6fcdfd6c44cf7a25f3f3f9c70437", func := "foliot/foliottop.TopSaid", spec := "topSaid", inPlace := ["slices.overlaps[foliot/api.Task]", "slices.overlaps[foliot/api.Job]"], unfollowed := true, recurses := true, plainKeys := false, apart := false }
def TopSaidSaid : Prop := topSaidRow.holds Tryz.pinned (OpenSpec.ofChange topSaidSpec)

/-- ITS FALSE NEIGHBOUR: 'it returns false'. Refute it at one input. -/
def topSaidWrong : ChangeSpec := { name := "topSaid", fn := fun _ => fun
  | [d1, d2, d3] => { results := [.lit (.bool false)], args := [d1, d2, d3] }
  | _ => none }
def TopSaidWrongFalsely : Prop := topSaidRow.holds Tryz.pinned (OpenSpec.ofChange topSaidWrong)

/-- 'foliottop.TopBytes': WHATEVER THE INPUT: true; the input reads as it did. -/
def topBytesSpec : ChangeSpec := { name := "topBytes", fn := fun _ => fun
  | [d1, d2] => { results := [.lit (.bool true)], args := [d1, d2] }
  | _ => none }
def topBytesRow : OpenClaim := { program := "ytjjjbcmjmkcedaagreat", sum := "1b4afa8d49d68923703555cfdf641cae7b1c6fcdfd6c44cf7a25f3f3f9c70437", func := "foliot/foliottop.TopBytes", spec := "topBytes", inPlace := ["slices.overlaps[foliot/api.Task]", "slices.overlaps[foliot/api.Job]"], unfollowed := true, recurses := true, plainKeys := false, apart := false }
def TopBytesSaid : Prop := topBytesRow.holds Tryz.pinned (OpenSpec.ofChange topBytesSpec)

/-- ITS FALSE NEIGHBOUR: 'it returns false'. Refute it at one input. -/
def topBytesWrong : ChangeSpec := { name := "topBytes", fn := fun _ => fun
  | [d1, d2] => { results := [.lit (.bool false)], args := [d1, d2] }
  | _ => none }
def TopBytesWrongFalsely : Prop := topBytesRow.holds Tryz.pinned (OpenSpec.ofChange topBytesWrong)

/- THE SECOND FORM. 'bulk': how many values and letters a reading holds, each counted each time it is reached (what is shared counts as often as it is met; a slice's spare places count too). A statement '..UptoSaid' is the law's where the arguments, and the package variables that the reading takes, are together of bulk at most 1048576: NARROWER than '..Said'. Prove '..Said' where nothing that the law and all that it calls make is longer than what came in: it says more and counts as full. Else prove '..UptoSaid'. A law counts once. -/
mutual
def uptoBulk {H : Type} : DataW H → Nat
  | .lit (.string bytes) => bytes.length + 1
  | .lit _ => 1
  | .nil => 1
  | .ptr d => uptoBulk d + 1
  | .slice elems spare => uptoBulkAll elems + uptoBulkAll spare + 1
  | .agg parts => uptoBulkAll parts + 1
  | .iface _ d => uptoBulk d + 1
  | .map entries => uptoBulkEntries entries + 1
  | .held _ => 1
def uptoBulkAll {H : Type} : List (DataW H) → Nat
  | [] => 0
  | d :: r => uptoBulk d + uptoBulkAll r
def uptoBulkEntries {H : Type} : List (Lit × DataW H) → Nat
  | [] => 0
  | x :: r => uptoBulkEntry x + uptoBulkEntries r
def uptoBulkEntry {H : Type} : Lit × DataW H → Nat
  | (.string bytes, d) => bytes.length + uptoBulk d + 1
  | (_, d) => uptoBulk d + 1
 end
def uptoSmall : (H : Type) → List (DataW H) → Bool := fun _ ds => decide (uptoBulkAll ds ≤ 1048576)
def OpenSpec.upto (s : _root_.Go.ChangeSpec) : _root_.Go.OpenSpec := { _root_.Go.OpenSpec.ofChange s with cond := some uptoSmall }

/-- 'foliottop.TopOnce', WHERE WHAT IT READS IS OF BULK AT MOST 1048576: true; the input reads as it did. -/
def topOnceUptoRow : OpenClaim := { program := "ytjjjbcmjmkcedaagreat", sum := "1b4afa8d49d68923703555cfdf641cae7b1c6fcdfd6c44cf7a25f3f3f9c70437", func := "foliot/foliottop.TopOnce", spec := "topOnce", inPlace := ["slices.overlaps[foliot/api.Task]", "slices.overlaps[foliot/api.Job]"], unfollowed := true, recurses := true, plainKeys := false, apart := false, narrowed := true }
def TopOnceUptoSaid : Prop := topOnceUptoRow.holds Tryz.pinned (OpenSpec.upto topOnceSpec)

/-- 'foliotlaw24.KernTicks', WHERE WHAT IT READS IS OF BULK AT MOST 1048576: true; the input reads as it did. -/
def kernTicksUptoRow : OpenClaim := { program := "ytjjjbcmjmkcedaagreat", sum := "1b4afa8d49d68923703555cfdf641cae7b1c6fcdfd6c44cf7a25f3f3f9c70437", func := "foliot/foliotlaw24.KernTicks", spec := "kernTicks", inPlace := ["slices.overlaps[foliot/api.Job]"], unfollowed := true, recurses := true, plainKeys := false, apart := false, narrowed := true }
def KernTicksUptoSaid : Prop := kernTicksUptoRow.holds Tryz.pinned (OpenSpec.upto kernTicksSpec)

/-- 'foliotlaw25.CallAll', WHERE WHAT IT READS IS OF BULK AT MOST 1048576: true; the input reads as it did. -/
def callAllUptoRow : OpenClaim := { program := "ytjjjbcmjmkcedaagreat", sum := "1b4afa8d49d68923703555cfdf641cae7b1c6fcdfd6c44cf7a25f3f3f9c70437", func := "foliot/foliotlaw25.CallAll", spec := "callAll", inPlace := ["slices.overlaps[foliot/api.Task]", "slices.overlaps[foliot/api.Job]"], unfollowed := true, recurses := true, plainKeys := false, apart := false, narrowed := true }
def CallAllUptoSaid : Prop := callAllUptoRow.holds Tryz.pinned (OpenSpec.upto callAllSpec)

/-- 'foliotlaw25.CallWrong', WHERE WHAT IT READS IS OF BULK AT MOST 1048576: true; the input reads as it did. -/
def callWrongUptoRow : OpenClaim := { program := "ytjjjbcmjmkcedaagreat", sum := "1b4afa8d49d68923703555cfdf641cae7b1c6fcdfd6c44cf7a25f3f3f9c70437", func := "foliot/foliotlaw25.CallWrong", spec := "callWrong", inPlace := ["slices.overlaps[foliot/api.Task]", "slices.overlaps[foliot/api.Job]"], unfollowed := true, recurses := true, plainKeys := false, apart := false, narrowed := true }
def CallWrongUptoSaid : Prop := callWrongUptoRow.holds Tryz.pinned (OpenSpec.upto callWrongSpec)

/-- 'foliotlaw26.TrialAll', WHERE WHAT IT READS IS OF BULK AT MOST 1048576: true; the input reads as it did. -/
def trialAllUptoRow : OpenClaim := { program := "ytjjjbcmjmkcedaagreat", sum := "1b4afa8d49d68923703555cfdf641cae7b1c6fcdfd6c44cf7a25f3f3f9c70437", func := "foliot/foliotlaw26.TrialAll", spec := "trialAll", inPlace := ["slices.overlaps[foliot/api.Task]", "slices.overlaps[foliot/api.Job]"], unfollowed := true, recurses := true, plainKeys := false, apart := false, narrowed := true }
def TrialAllUptoSaid : Prop := trialAllUptoRow.holds Tryz.pinned (OpenSpec.upto trialAllSpec)

/-- 'foliotlaw26.TrialWhole', WHERE WHAT IT READS IS OF BULK AT MOST 1048576: true; the input reads as it did. -/
def trialWholeUptoRow : OpenClaim := { program := "ytjjjbcmjmkcedaagreat", sum := "1b4afa8d49d68923703555cfdf641cae7b1c6fcdfd6c44cf7a25f3f3f9c70437", func := "foliot/foliotlaw26.TrialWhole", spec := "trialWhole", inPlace := ["slices.overlaps[foliot/api.Task]", "slices.overlaps[foliot/api.Job]"], unfollowed := true, recurses := true, plainKeys := false, apart := false, narrowed := true }
def TrialWholeUptoSaid : Prop := trialWholeUptoRow.holds Tryz.pinned (OpenSpec.upto trialWholeSpec)

/-- 'foliotlaw26.TrialParts', WHERE WHAT IT READS IS OF BULK AT MOST 1048576: true; the input reads as it did. -/
def trialPartsUptoRow : OpenClaim := { program := "ytjjjbcmjmkcedaagreat", sum := "1b4afa8d49d68923703555cfdf641cae7b1c6fcdfd6c44cf7a25f3f3f9c70437", func := "foliot/foliotlaw26.TrialParts", spec := "trialParts", inPlace := ["slices.overlaps[foliot/api.Task]", "slices.overlaps[foliot/api.Job]"], unfollowed := true, recurses := true, plainKeys := false, apart := false, narrowed := true }
def TrialPartsUptoSaid : Prop := trialPartsUptoRow.holds Tryz.pinned (OpenSpec.upto trialPartsSpec)

/-- 'foliotlaw26.TrialHeld', WHERE WHAT IT READS IS OF BULK AT MOST 1048576: true; the input reads as it did. -/
def trialHeldUptoRow : OpenClaim := { program := "ytjjjbcmjmkcedaagreat", sum := "1b4afa8d49d68923703555cfdf641cae7b1c6fcdfd6c44cf7a25f3f3f9c70437", func := "foliot/foliotlaw26.TrialHeld", spec := "trialHeld", inPlace := ["slices.overlaps[foliot/api.Task]", "slices.overlaps[foliot/api.Job]"], unfollowed := true, recurses := true, plainKeys := false, apart := false, narrowed := true }
def TrialHeldUptoSaid : Prop := trialHeldUptoRow.holds Tryz.pinned (OpenSpec.upto trialHeldSpec)

/-- 'foliottop.TopSame', WHERE WHAT IT READS IS OF BULK AT MOST 1048576: true; the input reads as it did. -/
def topSameUptoRow : OpenClaim := { program := "ytjjjbcmjmkcedaagreat", sum := "1b4afa8d49d68923703555cfdf641cae7b1c6fcdfd6c44cf7a25f3f3f9c70437", func := "foliot/foliottop.TopSame", spec := "topSame", inPlace := ["slices.overlaps[foliot/api.Task]", "slices.overlaps[foliot/api.Job]"], unfollowed := true, recurses := true, plainKeys := false, apart := false, narrowed := true }
def TopSameUptoSaid : Prop := topSameUptoRow.holds Tryz.pinned (OpenSpec.upto topSameSpec)

/-- 'foliottop.TopTrue', WHERE WHAT IT READS IS OF BULK AT MOST 1048576: true; the input reads as it did. -/
def topTrueUptoRow : OpenClaim := { program := "ytjjjbcmjmkcedaagreat", sum := "1b4afa8d49d68923703555cfdf641cae7b1c6fcdfd6c44cf7a25f3f3f9c70437", func := "foliot/foliottop.TopTrue", spec := "topTrue", inPlace := ["slices.overlaps[foliot/api.Task]", "slices.overlaps[foliot/api.Job]"], unfollowed := true, recurses := true, plainKeys := false, apart := false, narrowed := true }
def TopTrueUptoSaid : Prop := topTrueUptoRow.holds Tryz.pinned (OpenSpec.upto topTrueSpec)

/-- 'foliottop.TopSaid', WHERE WHAT IT READS IS OF BULK AT MOST 1048576: true; the input reads as it did. -/
def topSaidUptoRow : OpenClaim := { program := "ytjjjbcmjmkcedaagreat", sum := "1b4afa8d49d68923703555cfdf641cae7b1c6fcdfd6c44cf7a25f3f3f9c70437", func := "foliot/foliottop.TopSaid", spec := "topSaid", inPlace := ["slices.overlaps[foliot/api.Task]", "slices.overlaps[foliot/api.Job]"], unfollowed := true, recurses := true, plainKeys := false, apart := false, narrowed := true }
def TopSaidUptoSaid : Prop := topSaidUptoRow.holds Tryz.pinned (OpenSpec.upto topSaidSpec)

/-- 'foliottop.TopBytes', WHERE WHAT IT READS IS OF BULK AT MOST 1048576: true; the input reads as it did. -/
def topBytesUptoRow : OpenClaim := { program := "ytjjjbcmjmkcedaagreat", sum := "1b4afa8d49d68923703555cfdf641cae7b1c6fcdfd6c44cf7a25f3f3f9c70437", func := "foliot/foliottop.TopBytes", spec := "topBytes", inPlace := ["slices.overlaps[foliot/api.Task]", "slices.overlaps[foliot/api.Job]"], unfollowed := true, recurses := true, plainKeys := false, apart := false, narrowed := true }
def TopBytesUptoSaid : Prop := topBytesUptoRow.holds Tryz.pinned (OpenSpec.upto topBytesSpec)

end Rows
end Go.Proofs.YtjjjbcmjmkcedaaGreat
