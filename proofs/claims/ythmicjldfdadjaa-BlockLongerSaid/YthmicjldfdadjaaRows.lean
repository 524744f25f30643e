/-
  No cell of these rows narrows 'for every input' (looked for: loops, veiled, ifaces, maps, wideKeys, modest, calm, conditions, laid).
  DERIVED. THE GIVEN ROWS OF THIS SEAT. 8 by the template 'for every input the law returns true; each argument reads behind the call as it read before'; 0 by the template 'total and deterministic' (their statements: YthmicjldfdadjaaTotals.lean).
  GIVEN WITH THE SEED: the statements are not yours to turn. If you find one false, say at which input.
  Laid BY PROGRAM, IN A SANDBOX (cutbox-rows.mjs): the forced cells as the released guide's own fill.sh prints them over the translation 7d4ad76c02947588… (all of the seat's roots in one cut). By AI agents, Wed Nov 11 2026. No macro, syntax, notation, axiom, sorry.
-/
import Derived.Test.YthmicjldfdadjaaChecked
import GoSem.Claim
import GoSem.ClaimJoined
import GoSem.ClaimMapViews
import Derived.JoinedTies
import Derived.KernelRfl
namespace Go.Proofs.Ythmicjldfdadjaa
/- THE CELL 'sum', in the pinned program and in every row, IS THE sha256 OF THE DUMP (.gsa) THAT YthmicjldfdadjaaProg.lean LOADS. Nothing in Lean hashes anything: it is a label: what it is worth is what the hold of that sum in a sandbox is worth. -/
noncomputable def Try.pinned : Pinned := { name := "ythmicjldfdadjaa", sum := "7d4ad76c02947588ebd4dcc3691d86cfb7c0fee79d45b404640a63f728a1fb51", checked := Try.checked }
namespace Rows
def none {H : Type} : Left H := { results := [], args := [] }

/-- 'foliotlaw15.TaskAll': WHATEVER THE INPUT: true; the input reads as it did. -/
def taskAllSpec : ChangeSpec := { name := "taskAll", fn := fun _ => fun
  | [d1, d2, d3, d4] => { results := [.lit (.bool true)], args := [d1, d2, d3, d4] }
  | _ => none }
def taskAllRow : OpenClaim := { program := "ythmicjldfdadjaa", sum := "7d4ad76c02947588ebd4dcc3691d86cfb7c0fee79d45b404640a63f728a1fb51", func := "foliot/foliotlaw15.TaskAll", spec := "taskAll", unfollowed := true, recurses := true, plainKeys := false, apart := false }
def TaskAllSaid : Prop := taskAllRow.holds Try.pinned (OpenSpec.ofChange taskAllSpec)

/-- ITS FALSE NEIGHBOUR: 'it returns false'. Refute it at one input. -/
def taskAllWrong : ChangeSpec := { name := "taskAll", fn := fun _ => fun
  | [d1, d2, d3, d4] => { results := [.lit (.bool false)], args := [d1, d2, d3, d4] }
  | _ => none }
def TaskAllWrongFalsely : Prop := taskAllRow.holds Try.pinned (OpenSpec.ofChange taskAllWrong)

/-- 'foliotlaw15.TaskForms': WHATEVER THE INPUT: true; the input reads as it did. -/
def taskFormsSpec : ChangeSpec := { name := "taskForms", fn := fun _ => fun
  | [] => { results := [.lit (.bool true)], args := [] }
  | _ => none }
def taskFormsRow : OpenClaim := { program := "ythmicjldfdadjaa", sum := "7d4ad76c02947588ebd4dcc3691d86cfb7c0fee79d45b404640a63f728a1fb51", func := "foliot/foliotlaw15.TaskForms", spec := "taskForms", unfollowed := true, recurses := true, plainKeys := false, apart := false }
def TaskFormsSaid : Prop := taskFormsRow.holds Try.pinned (OpenSpec.ofChange taskFormsSpec)

/-- ITS FALSE NEIGHBOUR: 'it returns false'. Refute it at one input. -/
def taskFormsWrong : ChangeSpec := { name := "taskForms", fn := fun _ => fun
  | [] => { results := [.lit (.bool false)], args := [] }
  | _ => none }
def TaskFormsWrongFalsely : Prop := taskFormsRow.holds Try.pinned (OpenSpec.ofChange taskFormsWrong)

/-- 'foliotlaw15.TaskHolds': WHATEVER THE INPUT: true; the input reads as it did. -/
def taskHoldsSpec : ChangeSpec := { name := "taskHolds", fn := fun _ => fun
  | [d1, d2] => { results := [.lit (.bool true)], args := [d1, d2] }
  | _ => none }
def taskHoldsRow : OpenClaim := { program := "ythmicjldfdadjaa", sum := "7d4ad76c02947588ebd4dcc3691d86cfb7c0fee79d45b404640a63f728a1fb51", func := "foliot/foliotlaw15.TaskHolds", spec := "taskHolds", unfollowed := true, recurses := true, plainKeys := false, apart := false }
def TaskHoldsSaid : Prop := taskHoldsRow.holds Try.pinned (OpenSpec.ofChange taskHoldsSpec)

/-- ITS FALSE NEIGHBOUR: 'it returns false'. Refute it at one input. -/
def taskHoldsWrong : ChangeSpec := { name := "taskHolds", fn := fun _ => fun
  | [d1, d2] => { results := [.lit (.bool false)], args := [d1, d2] }
  | _ => none }
def TaskHoldsWrongFalsely : Prop := taskHoldsRow.holds Try.pinned (OpenSpec.ofChange taskHoldsWrong)

/-- 'foliotlaw16.BlockAll': WHATEVER THE INPUT: true; the input reads as it did. -/
def blockAllSpec : ChangeSpec := { name := "blockAll", fn := fun _ => fun
  | [d] => { results := [.lit (.bool true)], args := [d] }
  | _ => none }
def blockAllRow : OpenClaim := { program := "ythmicjldfdadjaa", sum := "7d4ad76c02947588ebd4dcc3691d86cfb7c0fee79d45b404640a63f728a1fb51", func := "foliot/foliotlaw16.BlockAll", spec := "blockAll", unfollowed := true, recurses := true, plainKeys := false, apart := false }
def BlockAllSaid : Prop := blockAllRow.holds Try.pinned (OpenSpec.ofChange blockAllSpec)

/-- ITS FALSE NEIGHBOUR: 'it returns false'. Refute it at one input. -/
def blockAllWrong : ChangeSpec := { name := "blockAll", fn := fun _ => fun
  | [d] => { results := [.lit (.bool false)], args := [d] }
  | _ => none }
def BlockAllWrongFalsely : Prop := blockAllRow.holds Try.pinned (OpenSpec.ofChange blockAllWrong)

/-- 'foliotlaw16.BlockFalls': WHATEVER THE INPUT: true; the input reads as it did. -/
def blockFallsSpec : ChangeSpec := { name := "blockFalls", fn := fun _ => fun
  | [d] => { results := [.lit (.bool true)], args := [d] }
  | _ => none }
def blockFallsRow : OpenClaim := { program := "ythmicjldfdadjaa", sum := "7d4ad76c02947588ebd4dcc3691d86cfb7c0fee79d45b404640a63f728a1fb51", func := "foliot/foliotlaw16.BlockFalls", spec := "blockFalls", unfollowed := true, recurses := true, plainKeys := false, apart := false }
def BlockFallsSaid : Prop := blockFallsRow.holds Try.pinned (OpenSpec.ofChange blockFallsSpec)

/-- ITS FALSE NEIGHBOUR: 'it returns false'. Refute it at one input. -/
def blockFallsWrong : ChangeSpec := { name := "blockFalls", fn := fun _ => fun
  | [d] => { results := [.lit (.bool false)], args := [d] }
  | _ => none }
def BlockFallsWrongFalsely : Prop := blockFallsRow.holds Try.pinned (OpenSpec.ofChange blockFallsWrong)

/-- 'foliotlaw16.BlockCeil': WHATEVER THE INPUT: true; the input reads as it did. -/
def blockCeilSpec : ChangeSpec := { name := "blockCeil", fn := fun _ => fun
  | [d1, d2] => { results := [.lit (.bool true)], args := [d1, d2] }
  | _ => none }
def blockCeilRow : OpenClaim := { program := "ythmicjldfdadjaa", sum := "7d4ad76c02947588ebd4dcc3691d86cfb7c0fee79d45b404640a63f728a1fb51", func := "foliot/foliotlaw16.BlockCeil", spec := "blockCeil", unfollowed := true, recurses := true, plainKeys := false, apart := false }
def BlockCeilSaid : Prop := blockCeilRow.holds Try.pinned (OpenSpec.ofChange blockCeilSpec)

/-- ITS FALSE NEIGHBOUR: 'it returns false'. Refute it at one input. -/
def blockCeilWrong : ChangeSpec := { name := "blockCeil", fn := fun _ => fun
  | [d1, d2] => { results := [.lit (.bool false)], args := [d1, d2] }
  | _ => none }
def BlockCeilWrongFalsely : Prop := blockCeilRow.holds Try.pinned (OpenSpec.ofChange blockCeilWrong)

/-- 'foliotlaw16.BlockForms': WHATEVER THE INPUT: true; the input reads as it did. -/
def blockFormsSpec : ChangeSpec := { name := "blockForms", fn := fun _ => fun
  | [] => { results := [.lit (.bool true)], args := [] }
  | _ => none }
def blockFormsRow : OpenClaim := { program := "ythmicjldfdadjaa", sum := "7d4ad76c02947588ebd4dcc3691d86cfb7c0fee79d45b404640a63f728a1fb51", func := "foliot/foliotlaw16.BlockForms", spec := "blockForms", unfollowed := true, recurses := true, plainKeys := false, apart := false }
def BlockFormsSaid : Prop := blockFormsRow.holds Try.pinned (OpenSpec.ofChange blockFormsSpec)

/-- ITS FALSE NEIGHBOUR: 'it returns false'. Refute it at one input. -/
def blockFormsWrong : ChangeSpec := { name := "blockForms", fn := fun _ => fun
  | [] => { results := [.lit (.bool false)], args := [] }
  | _ => none }
def BlockFormsWrongFalsely : Prop := blockFormsRow.holds Try.pinned (OpenSpec.ofChange blockFormsWrong)

/-- 'foliotlaw16.BlockLonger': WHATEVER THE INPUT: true; the input reads as it did. -/
def blockLongerSpec : ChangeSpec := { name := "blockLonger", fn := fun _ => fun
  | [d1, d2] => { results := [.lit (.bool true)], args := [d1, d2] }
  | _ => none }
def blockLongerRow : OpenClaim := { program := "ythmicjldfdadjaa", sum := "7d4ad76c02947588ebd4dcc3691d86cfb7c0fee79d45b404640a63f728a1fb51", func := "foliot/foliotlaw16.BlockLonger", spec := "blockLonger", unfollowed := true, recurses := true, plainKeys := false, apart := false }
def BlockLongerSaid : Prop := blockLongerRow.holds Try.pinned (OpenSpec.ofChange blockLongerSpec)

/-- ITS FALSE NEIGHBOUR: 'it returns false'. Refute it at one input. -/
def blockLongerWrong : ChangeSpec := { name := "blockLonger", fn := fun _ => fun
  | [d1, d2] => { results := [.lit (.bool false)], args := [d1, d2] }
  | _ => none }
def BlockLongerWrongFalsely : Prop := blockLongerRow.holds Try.pinned (OpenSpec.ofChange blockLongerWrong)

/- THE SECOND FORM. 'bulk': how many values and letters a reading holds, each counted each time it is reached (what is shared counts as often as it is met; a slice's spare places count too). A statement '..UptoSaid' is the law's where the arguments, and the package variables that the reading takes, are together of bulk at most 1048576: NARROWER than '..Said'. Prove '..Said' where nothing that the law and all that it calls make is longer than what came in: it says more and counts as full. Else prove '..UptoSaid'. A law counts once. -/
mutual
def uptoBulk {H : Type} : DataW H → Nat
  | .lit (.string bytes) => bytes.length + 1
  | .lit _ => 1
  | .nil => 1
  | .ptr d => uptoBulk d + 1
  | .slice elems spare => uptoBulkAll elems + uptoBulkAll spare + 1
  | .agg parts => uptoBulkAll parts + 1
  | .iface _ d => uptoBulk d + 1
  | .map entries => uptoBulkEntries entries + 1
  | .held _ => 1
def uptoBulkAll {H : Type} : List (DataW H) → Nat
  | [] => 0
  | d :: r => uptoBulk d + uptoBulkAll r
def uptoBulkEntries {H : Type} : List (Lit × DataW H) → Nat
  | [] => 0
  | x :: r => uptoBulkEntry x + uptoBulkEntries r
def uptoBulkEntry {H : Type} : Lit × DataW H → Nat
  | (.string bytes, d) => bytes.length + uptoBulk d + 1
  | (_, d) => uptoBulk d + 1
 end
def uptoSmall : (H : Type) → List (DataW H) → Bool := fun _ ds => decide (uptoBulkAll ds ≤ 1048576)
def OpenSpec.upto (s : _root_.Go.ChangeSpec) : _root_.Go.OpenSpec := { _root_.Go.OpenSpec.ofChange s with cond := some uptoSmall }

/-- 'foliotlaw15.TaskAll', WHERE WHAT IT READS IS OF BULK AT MOST 1048576: true; the input reads as it did. -/
def taskAllUptoRow : OpenClaim := { program := "ythmicjldfdadjaa", sum := "7d4ad76c02947588ebd4dcc3691d86cfb7c0fee79d45b404640a63f728a1fb51", func := "foliot/foliotlaw15.TaskAll", spec := "taskAll", unfollowed := true, recurses := true, plainKeys := false, apart := false, narrowed := true }
def TaskAllUptoSaid : Prop := taskAllUptoRow.holds Try.pinned (OpenSpec.upto taskAllSpec)

/-- 'foliotlaw15.TaskForms', WHERE WHAT IT READS IS OF BULK AT MOST 1048576: true; the input reads as it did. -/
def taskFormsUptoRow : OpenClaim := { program := "ythmicjldfdadjaa", sum := "7d4ad76c02947588ebd4dcc3691d86cfb7c0fee79d45b404640a63f728a1fb51", func := "foliot/foliotlaw15.TaskForms", spec := "taskForms", unfollowed := true, recurses := true, plainKeys := false, apart := false, narrowed := true }
def TaskFormsUptoSaid : Prop := taskFormsUptoRow.holds Try.pinned (OpenSpec.upto taskFormsSpec)

/-- 'foliotlaw15.TaskHolds', WHERE WHAT IT READS IS OF BULK AT MOST 1048576: true; the input reads as it did. -/
def taskHoldsUptoRow : OpenClaim := { program := "ythmicjldfdadjaa", sum := "7d4ad76c02947588ebd4dcc3691d86cfb7c0fee79d45b404640a63f728a1fb51", func := "foliot/foliotlaw15.TaskHolds", spec := "taskHolds", unfollowed := true, recurses := true, plainKeys := false, apart := false, narrowed := true }
def TaskHoldsUptoSaid : Prop := taskHoldsUptoRow.holds Try.pinned (OpenSpec.upto taskHoldsSpec)

/-- 'foliotlaw16.BlockAll', WHERE WHAT IT READS IS OF BULK AT MOST 1048576: true; the input reads as it did. -/
def blockAllUptoRow : OpenClaim := { program := "ythmicjldfdadjaa", sum := "7d4ad76c02947588ebd4dcc3691d86cfb7c0fee79d45b404640a63f728a1fb51", func := "foliot/foliotlaw16.BlockAll", spec := "blockAll", unfollowed := true, recurses := true, plainKeys := false, apart := false, narrowed := true }
def BlockAllUptoSaid : Prop := blockAllUptoRow.holds Try.pinned (OpenSpec.upto blockAllSpec)

/-- 'foliotlaw16.BlockFalls', WHERE WHAT IT READS IS OF BULK AT MOST 1048576: true; the input reads as it did. -/
def blockFallsUptoRow : OpenClaim := { program := "ythmicjldfdadjaa", sum := "7d4ad76c02947588ebd4dcc3691d86cfb7c0fee79d45b404640a63f728a1fb51", func := "foliot/foliotlaw16.BlockFalls", spec := "blockFalls", unfollowed := true, recurses := true, plainKeys := false, apart := false, narrowed := true }
def BlockFallsUptoSaid : Prop := blockFallsUptoRow.holds Try.pinned (OpenSpec.upto blockFallsSpec)

/-- 'foliotlaw16.BlockCeil', WHERE WHAT IT READS IS OF BULK AT MOST 1048576: true; the input reads as it did. -/
def blockCeilUptoRow : OpenClaim := { program := "ythmicjldfdadjaa", sum := "7d4ad76c02947588ebd4dcc3691d86cfb7c0fee79d45b404640a63f728a1fb51", func := "foliot/foliotlaw16.BlockCeil", spec := "blockCeil", unfollowed := true, recurses := true, plainKeys := false, apart := false, narrowed := true }
def BlockCeilUptoSaid : Prop := blockCeilUptoRow.holds Try.pinned (OpenSpec.upto blockCeilSpec)

/-- 'foliotlaw16.BlockForms', WHERE WHAT IT READS IS OF BULK AT MOST 1048576: true; the input reads as it did. -/
def blockFormsUptoRow : OpenClaim := { program := "ythmicjldfdadjaa", sum := "7d4ad76c02947588ebd4dcc3691d86cfb7c0fee79d45b404640a63f728a1fb51", func := "foliot/foliotlaw16.BlockForms", spec := "blockForms", unfollowed := true, recurses := true, plainKeys := false, apart := false, narrowed := true }
def BlockFormsUptoSaid : Prop := blockFormsUptoRow.holds Try.pinned (OpenSpec.upto blockFormsSpec)

/-- 'foliotlaw16.BlockLonger', WHERE WHAT IT READS IS OF BULK AT MOST 1048576: true; the input reads as it did. -/
def blockLongerUptoRow : OpenClaim := { program := "ythmicjldfdadjaa", sum := "7d4ad76c02947588ebd4dcc3691d86cfb7c0fee79d45b404640a63f728a1fb51", func := "foliot/foliotlaw16.BlockLonger", spec := "blockLonger", unfollowed := true, recurses := true, plainKeys := false, apart := false, narrowed := true }
def BlockLongerUptoSaid : Prop := blockLongerUptoRow.holds Try.pinned (OpenSpec.upto blockLongerSpec)

end Rows
end Go.Proofs.Ythmicjldfdadjaa
