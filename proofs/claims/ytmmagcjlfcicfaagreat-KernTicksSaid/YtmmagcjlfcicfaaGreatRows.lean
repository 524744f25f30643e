/-
  No cell of these rows narrows 'for every input' (looked for: loops, veiled, ifaces, maps, wideKeys, modest, calm, conditions, laid).
  DERIVED. THE GIVEN ROWS OF THIS SEAT. 6 by the template 'for every input the law returns true; each argument reads behind the call as it read before'; 0 by the template 'total and deterministic' (their statements: YtmmagcjlfcicfaaGreatTotals.lean).
  GIVEN WITH THE SEED: the statements are not yours to turn. If you find one false, say at which input.
  Laid BY PROGRAM, IN A SANDBOX (cutbox-rows.mjs): the forced cells as the released guide's own fill.sh prints them over the translation dd21536d69c89d61… (all of the seat's roots in one cut). By AI agents, Wed Nov 11 2026. No macro, syntax, notation, axiom, sorry.
-/
import Derived.Test.YtmmagcjlfcicfaaGreatChecked
import GoSem.Claim
import GoSem.ClaimJoined
import GoSem.ClaimMapViews
import Derived.JoinedTies
import Derived.KernelRfl
namespace Go.Proofs.YtmmagcjlfcicfaaGreat
/- THE CELL 'sum', in the pinned program and in every row, IS THE sha256 OF THE DUMP (.gsa) THAT YtmmagcjlfcicfaaGreatProg.lean LOADS. Nothing in Lean hashes anything: it is a label: what it is worth is what the hold of that sum in a sandbox is worth. -/
noncomputable def Tryz.pinned : Pinned := { name := "ytmmagcjlfcicfaagreat", sum := "dd21536d69c89d615393db06718d5f1311b1580f0728b06d7e0328a3c722ebdd", checked := Tryz.checked }
namespace Rows
def none {H : Type} : Left H := { results := [], args := [] }

/-- 'foliotlaw24.KernTicks': WHATEVER THE INPUT: true; the input reads as it did. -/
def kernTicksSpec : ChangeSpec := { name := "kernTicks", fn := fun _ => fun
  | [d1, d2, d3] => { results := [.lit (.bool true)], args := [d1, d2, d3] }
  | _ => none }
def kernTicksRow : OpenClaim := { program := "ytmmagcjlfcicfaagreat", sum := "dd21536d69c89d615393db06718d5f1311b1580f0728b06d7e0328a3c722ebdd", func := "foliot/foliotlaw24.KernTicks", spec := "kernTicks", inPlace := ["slices.overlaps[foliot/api.Job]"], unfollowed := true, recurses := true, plainKeys := false, apart := false }
def KernTicksSaid : Prop := kernTicksRow.holds Tryz.pinned (OpenSpec.ofChange kernTicksSpec)

/-- ITS FALSE NEIGHBOUR: 'it returns false'. Refute it at one input. -/
def kernTicksWrong : ChangeSpec := { name := "kernTicks", fn := fun _ => fun
  | [d1, d2, d3] => { results := [.lit (.bool false)], args := [d1, d2, d3] }
  | _ => none }
def KernTicksWrongFalsely : Prop := kernTicksRow.holds Tryz.pinned (OpenSpec.ofChange kernTicksWrong)

/-- 'foliotlaw24.KernNone': WHATEVER THE INPUT: true; the input reads as it did. -/
def kernNoneSpec : ChangeSpec := { name := "kernNone", fn := fun _ => fun
  | [d1, d2, d3] => { results := [.lit (.bool true)], args := [d1, d2, d3] }
  | _ => none }
def kernNoneRow : OpenClaim := { program := "ytmmagcjlfcicfaagreat", sum := "dd21536d69c89d615393db06718d5f1311b1580f0728b06d7e0328a3c722ebdd", func := "foliot/foliotlaw24.KernNone", spec := "kernNone", inPlace := ["slices.overlaps[foliot/api.Job]"], unfollowed := true, recurses := true, plainKeys := false, apart := false }
def KernNoneSaid : Prop := kernNoneRow.holds Tryz.pinned (OpenSpec.ofChange kernNoneSpec)

/-- ITS FALSE NEIGHBOUR: 'it returns false'. Refute it at one input. -/
def kernNoneWrong : ChangeSpec := { name := "kernNone", fn := fun _ => fun
  | [d1, d2, d3] => { results := [.lit (.bool false)], args := [d1, d2, d3] }
  | _ => none }
def KernNoneWrongFalsely : Prop := kernNoneRow.holds Tryz.pinned (OpenSpec.ofChange kernNoneWrong)

/-- 'foliotlaw24.KernOne': WHATEVER THE INPUT: true; the input reads as it did. -/
def kernOneSpec : ChangeSpec := { name := "kernOne", fn := fun _ => fun
  | [d1, d2, d3] => { results := [.lit (.bool true)], args := [d1, d2, d3] }
  | _ => none }
def kernOneRow : OpenClaim := { program := "ytmmagcjlfcicfaagreat", sum := "dd21536d69c89d615393db06718d5f1311b1580f0728b06d7e0328a3c722ebdd", func := "foliot/foliotlaw24.KernOne", spec := "kernOne", inPlace := ["slices.overlaps[foliot/api.Job]"], unfollowed := true, recurses := true, plainKeys := false, apart := false }
def KernOneSaid : Prop := kernOneRow.holds Tryz.pinned (OpenSpec.ofChange kernOneSpec)

/-- ITS FALSE NEIGHBOUR: 'it returns false'. Refute it at one input. -/
def kernOneWrong : ChangeSpec := { name := "kernOne", fn := fun _ => fun
  | [d1, d2, d3] => { results := [.lit (.bool false)], args := [d1, d2, d3] }
  | _ => none }
def KernOneWrongFalsely : Prop := kernOneRow.holds Tryz.pinned (OpenSpec.ofChange kernOneWrong)

/-- 'foliotlaw24.KernMiss': WHATEVER THE INPUT: true; the input reads as it did. -/
def kernMissSpec : ChangeSpec := { name := "kernMiss", fn := fun _ => fun
  | [d1, d2, d3] => { results := [.lit (.bool true)], args := [d1, d2, d3] }
  | _ => none }
def kernMissRow : OpenClaim := { program := "ytmmagcjlfcicfaagreat", sum := "dd21536d69c89d615393db06718d5f1311b1580f0728b06d7e0328a3c722ebdd", func := "foliot/foliotlaw24.KernMiss", spec := "kernMiss", inPlace := ["slices.overlaps[foliot/api.Job]"], unfollowed := true, recurses := true, plainKeys := false, apart := false }
def KernMissSaid : Prop := kernMissRow.holds Tryz.pinned (OpenSpec.ofChange kernMissSpec)

/-- ITS FALSE NEIGHBOUR: 'it returns false'. Refute it at one input. -/
def kernMissWrong : ChangeSpec := { name := "kernMiss", fn := fun _ => fun
  | [d1, d2, d3] => { results := [.lit (.bool false)], args := [d1, d2, d3] }
  | _ => none }
def KernMissWrongFalsely : Prop := kernMissRow.holds Tryz.pinned (OpenSpec.ofChange kernMissWrong)

/-- 'foliotlaw24.KernHit': WHATEVER THE INPUT: true; the input reads as it did. -/
def kernHitSpec : ChangeSpec := { name := "kernHit", fn := fun _ => fun
  | [d1, d2, d3] => { results := [.lit (.bool true)], args := [d1, d2, d3] }
  | _ => none }
def kernHitRow : OpenClaim := { program := "ytmmagcjlfcicfaagreat", sum := "dd21536d69c89d615393db06718d5f1311b1580f0728b06d7e0328a3c722ebdd", func := "foliot/foliotlaw24.KernHit", spec := "kernHit", inPlace := ["slices.overlaps[foliot/api.Job]"], unfollowed := true, recurses := true, plainKeys := false, apart := false }
def KernHitSaid : Prop := kernHitRow.holds Tryz.pinned (OpenSpec.ofChange kernHitSpec)

/-- ITS FALSE NEIGHBOUR: 'it returns false'. Refute it at one input. -/
def kernHitWrong : ChangeSpec := { name := "kernHit", fn := fun _ => fun
  | [d1, d2, d3] => { results := [.lit (.bool false)], args := [d1, d2, d3] }
  | _ => none }
def KernHitWrongFalsely : Prop := kernHitRow.holds Tryz.pinned (OpenSpec.ofChange kernHitWrong)

/-- 'foliotlaw24.KernUp': WHATEVER THE INPUT: true; the input reads as it did. -/
def kernUpSpec : ChangeSpec := { name := "kernUp", fn := fun _ => fun
  | [d1, d2] => { results := [.lit (.bool true)], args := [d1, d2] }
  | _ => none }
def kernUpRow : OpenClaim := { program := "ytmmagcjlfcicfaagreat", sum := "dd21536d69c89d615393db06718d5f1311b1580f0728b06d7e0328a3c722ebdd", func := "foliot/foliotlaw24.KernUp", spec := "kernUp", inPlace := ["slices.overlaps[foliot/api.Job]"], unfollowed := true, recurses := true, plainKeys := false, apart := false }
def KernUpSaid : Prop := kernUpRow.holds Tryz.pinned (OpenSpec.ofChange kernUpSpec)

/-- ITS FALSE NEIGHBOUR: 'it returns false'. Refute it at one input. -/
def kernUpWrong : ChangeSpec := { name := "kernUp", fn := fun _ => fun
  | [d1, d2] => { results := [.lit (.bool false)], args := [d1, d2] }
  | _ => none }
def KernUpWrongFalsely : Prop := kernUpRow.holds Tryz.pinned (OpenSpec.ofChange kernUpWrong)

/- THE SECOND FORM. 'bulk': how many values and letters a reading holds, each counted each time it is reached (what is shared counts as often as it is met; a slice's spare places count too). A statement '..UptoSaid' is the law's where the arguments, and the package variables that the reading takes, are together of bulk at most 1048576: NARROWER than '..Said'. Prove '..Said' where nothing that the law and all that it calls make is longer than what came in: it says more and counts as full. Else prove '..UptoSaid'. A law counts once. -/
mutual
def uptoBulk {H : Type} : DataW H → Nat
  | .lit (.string bytes) => bytes.length + 1
  | .lit _ => 1
  | .nil => 1
  | .ptr d => uptoBulk d + 1
  | .slice elems spare => uptoBulkAll elems + uptoBulkAll spare + 1
  | .agg parts => uptoBulkAll parts + 1
  | .iface _ d => uptoBulk d + 1
  | .map entries => uptoBulkEntries entries + 1
  | .held _ => 1
def uptoBulkAll {H : Type} : List (DataW H) → Nat
  | [] => 0
  | d :: r => uptoBulk d + uptoBulkAll r
def uptoBulkEntries {H : Type} : List (Lit × DataW H) → Nat
  | [] => 0
  | x :: r => uptoBulkEntry x + uptoBulkEntries r
def uptoBulkEntry {H : Type} : Lit × DataW H → Nat
  | (.string bytes, d) => bytes.length + uptoBulk d + 1
  | (_, d) => uptoBulk d + 1
 end
def uptoSmall : (H : Type) → List (DataW H) → Bool := fun _ ds => decide (uptoBulkAll ds ≤ 1048576)
def OpenSpec.upto (s : _root_.Go.ChangeSpec) : _root_.Go.OpenSpec := { _root_.Go.OpenSpec.ofChange s with cond := some uptoSmall }

/-- 'foliotlaw24.KernTicks', WHERE WHAT IT READS IS OF BULK AT MOST 1048576: true; the input reads as it did. -/
def kernTicksUptoRow : OpenClaim := { program := "ytmmagcjlfcicfaagreat", sum := "dd21536d69c89d615393db06718d5f1311b1580f0728b06d7e0328a3c722ebdd", func := "foliot/foliotlaw24.KernTicks", spec := "kernTicks", inPlace := ["slices.overlaps[foliot/api.Job]"], unfollowed := true, recurses := true, plainKeys := false, apart := false, narrowed := true }
def KernTicksUptoSaid : Prop := kernTicksUptoRow.holds Tryz.pinned (OpenSpec.upto kernTicksSpec)

/-- 'foliotlaw24.KernNone', WHERE WHAT IT READS IS OF BULK AT MOST 1048576: true; the input reads as it did. -/
def kernNoneUptoRow : OpenClaim := { program := "ytmmagcjlfcicfaagreat", sum := "dd21536d69c89d615393db06718d5f1311b1580f0728b06d7e0328a3c722ebdd", func := "foliot/foliotlaw24.KernNone", spec := "kernNone", inPlace := ["slices.overlaps[foliot/api.Job]"], unfollowed := true, recurses := true, plainKeys := false, apart := false, narrowed := true }
def KernNoneUptoSaid : Prop := kernNoneUptoRow.holds Tryz.pinned (OpenSpec.upto kernNoneSpec)

/-- 'foliotlaw24.KernOne', WHERE WHAT IT READS IS OF BULK AT MOST 1048576: true; the input reads as it did. -/
def kernOneUptoRow : OpenClaim := { program := "ytmmagcjlfcicfaagreat", sum := "dd21536d69c89d615393db06718d5f1311b1580f0728b06d7e0328a3c722ebdd", func := "foliot/foliotlaw24.KernOne", spec := "kernOne", inPlace := ["slices.overlaps[foliot/api.Job]"], unfollowed := true, recurses := true, plainKeys := false, apart := false, narrowed := true }
def KernOneUptoSaid : Prop := kernOneUptoRow.holds Tryz.pinned (OpenSpec.upto kernOneSpec)

/-- 'foliotlaw24.KernMiss', WHERE WHAT IT READS IS OF BULK AT MOST 1048576: true; the input reads as it did. -/
def kernMissUptoRow : OpenClaim := { program := "ytmmagcjlfcicfaagreat", sum := "dd21536d69c89d615393db06718d5f1311b1580f0728b06d7e0328a3c722ebdd", func := "foliot/foliotlaw24.KernMiss", spec := "kernMiss", inPlace := ["slices.overlaps[foliot/api.Job]"], unfollowed := true, recurses := true, plainKeys := false, apart := false, narrowed := true }
def KernMissUptoSaid : Prop := kernMissUptoRow.holds Tryz.pinned (OpenSpec.upto kernMissSpec)

/-- 'foliotlaw24.KernHit', WHERE WHAT IT READS IS OF BULK AT MOST 1048576: true; the input reads as it did. -/
def kernHitUptoRow : OpenClaim := { program := "ytmmagcjlfcicfaagreat", sum := "dd21536d69c89d615393db06718d5f1311b1580f0728b06d7e0328a3c722ebdd", func := "foliot/foliotlaw24.KernHit", spec := "kernHit", inPlace := ["slices.overlaps[foliot/api.Job]"], unfollowed := true, recurses := true, plainKeys := false, apart := false, narrowed := true }
def KernHitUptoSaid : Prop := kernHitUptoRow.holds Tryz.pinned (OpenSpec.upto kernHitSpec)

/-- 'foliotlaw24.KernUp', WHERE WHAT IT READS IS OF BULK AT MOST 1048576: true; the input reads as it did. -/
def kernUpUptoRow : OpenClaim := { program := "ytmmagcjlfcicfaagreat", sum := "dd21536d69c89d615393db06718d5f1311b1580f0728b06d7e0328a3c722ebdd", func := "foliot/foliotlaw24.KernUp", spec := "kernUp", inPlace := ["slices.overlaps[foliot/api.Job]"], unfollowed := true, recurses := true, plainKeys := false, apart := false, narrowed := true }
def KernUpUptoSaid : Prop := kernUpUptoRow.holds Tryz.pinned (OpenSpec.upto kernUpSpec)

end Rows
end Go.Proofs.YtmmagcjlfcicfaaGreat
