/-
  No cell of these rows narrows 'for every input' (looked for: loops, veiled, ifaces, maps, wideKeys, modest, calm, conditions, laid).
  DERIVED. THE GIVEN ROWS OF THIS SEAT. 12 by the template 'for every input the law returns true; each argument reads behind the call as it read before'; 0 by the template 'total and deterministic' (their statements: YtfjhhmgbmfjloaaTotals.lean).
  GIVEN WITH THE SEED: the statements are not yours to turn. If you find one false, say at which input.
  Laid BY PROGRAM, IN A SANDBOX (cutbox-rows.mjs): the forced cells as the released guide's own fill.sh prints them over the translation 4bf83de4b69f1354… (all of the seat's roots in one cut). By AI agents, Wed Nov 11 2026. No macro, syntax, notation, axiom, sorry.
-/
import Derived.Test.YtfjhhmgbmfjloaaChecked
import GoSem.Claim
import GoSem.ClaimJoined
import GoSem.ClaimMapViews
import Derived.JoinedTies
import Derived.KernelRfl
namespace Go.Proofs.Ytfjhhmgbmfjloaa
/- THE CELL 'sum', in the pinned program and in every row, IS THE sha256 OF THE DUMP (.gsa) THAT YtfjhhmgbmfjloaaProg.lean LOADS. Nothing in Lean hashes anything: it is a label: what it is worth is what the hold of that sum in a sandbox is worth. -/
noncomputable def Try.pinned : Pinned := { name := "ytfjhhmgbmfjloaa", sum := "4bf83de4b69f1354e261eeaa55b589af2b296e7d0d7f24917ed247c761ed9323", checked := Try.checked }
namespace Rows
def none {H : Type} : Left H := { results := [], args := [] }

/-- 'laws.FnExactTakesLocks': WHATEVER THE INPUT: true; the input reads as it did. -/
def fnExactTakesLocksSpec : ChangeSpec := { name := "fnExactTakesLocks", fn := fun _ => fun
  | [d] => { results := [.lit (.bool true)], args := [d] }
  | _ => none }
def fnExactTakesLocksRow : OpenClaim := { program := "ytfjhhmgbmfjloaa", sum := "4bf83de4b69f1354e261eeaa55b589af2b296e7d0d7f24917ed247c761ed9323", func := "loop.example/g01924/laws.FnExactTakesLocks", spec := "fnExactTakesLocks", apart := false }
def FnExactTakesLocksSaid : Prop := fnExactTakesLocksRow.holds Try.pinned (OpenSpec.ofChange fnExactTakesLocksSpec)

/-- ITS FALSE NEIGHBOUR: 'it returns false'. Refute it at one input. -/
def fnExactTakesLocksWrong : ChangeSpec := { name := "fnExactTakesLocks", fn := fun _ => fun
  | [d] => { results := [.lit (.bool false)], args := [d] }
  | _ => none }
def FnExactTakesLocksWrongFalsely : Prop := fnExactTakesLocksRow.holds Try.pinned (OpenSpec.ofChange fnExactTakesLocksWrong)

/-- 'laws.FnExactCodeName': WHATEVER THE INPUT: true; the input reads as it did. -/
def fnExactCodeNameSpec : ChangeSpec := { name := "fnExactCodeName", fn := fun _ => fun
  | [d] => { results := [.lit (.bool true)], args := [d] }
  | _ => none }
def fnExactCodeNameRow : OpenClaim := { program := "ytfjhhmgbmfjloaa", sum := "4bf83de4b69f1354e261eeaa55b589af2b296e7d0d7f24917ed247c761ed9323", func := "loop.example/g01924/laws.FnExactCodeName", spec := "fnExactCodeName", apart := false }
def FnExactCodeNameSaid : Prop := fnExactCodeNameRow.holds Try.pinned (OpenSpec.ofChange fnExactCodeNameSpec)

/-- ITS FALSE NEIGHBOUR: 'it returns false'. Refute it at one input. -/
def fnExactCodeNameWrong : ChangeSpec := { name := "fnExactCodeName", fn := fun _ => fun
  | [d] => { results := [.lit (.bool false)], args := [d] }
  | _ => none }
def FnExactCodeNameWrongFalsely : Prop := fnExactCodeNameRow.holds Try.pinned (OpenSpec.ofChange fnExactCodeNameWrong)

/-- 'laws.FnExactNewIndex': WHATEVER THE INPUT: true; the input reads as it did. -/
def fnExactNewIndexSpec : ChangeSpec := { name := "fnExactNewIndex", fn := fun _ => fun
  | [] => { results := [.lit (.bool true)], args := [] }
  | _ => none }
def fnExactNewIndexRow : OpenClaim := { program := "ytfjhhmgbmfjloaa", sum := "4bf83de4b69f1354e261eeaa55b589af2b296e7d0d7f24917ed247c761ed9323", func := "loop.example/g01924/laws.FnExactNewIndex", spec := "fnExactNewIndex", apart := false }
def FnExactNewIndexSaid : Prop := fnExactNewIndexRow.holds Try.pinned (OpenSpec.ofChange fnExactNewIndexSpec)

/-- ITS FALSE NEIGHBOUR: 'it returns false'. Refute it at one input. -/
def fnExactNewIndexWrong : ChangeSpec := { name := "fnExactNewIndex", fn := fun _ => fun
  | [] => { results := [.lit (.bool false)], args := [] }
  | _ => none }
def FnExactNewIndexWrongFalsely : Prop := fnExactNewIndexRow.holds Try.pinned (OpenSpec.ofChange fnExactNewIndexWrong)

/-- 'laws.FnExactIsValidOp': WHATEVER THE INPUT: true; the input reads as it did. -/
def fnExactIsValidOpSpec : ChangeSpec := { name := "fnExactIsValidOp", fn := fun _ => fun
  | [d] => { results := [.lit (.bool true)], args := [d] }
  | _ => none }
def fnExactIsValidOpRow : OpenClaim := { program := "ytfjhhmgbmfjloaa", sum := "4bf83de4b69f1354e261eeaa55b589af2b296e7d0d7f24917ed247c761ed9323", func := "loop.example/g01924/laws.FnExactIsValidOp", spec := "fnExactIsValidOp", apart := false }
def FnExactIsValidOpSaid : Prop := fnExactIsValidOpRow.holds Try.pinned (OpenSpec.ofChange fnExactIsValidOpSpec)

/-- ITS FALSE NEIGHBOUR: 'it returns false'. Refute it at one input. -/
def fnExactIsValidOpWrong : ChangeSpec := { name := "fnExactIsValidOp", fn := fun _ => fun
  | [d] => { results := [.lit (.bool false)], args := [d] }
  | _ => none }
def FnExactIsValidOpWrongFalsely : Prop := fnExactIsValidOpRow.holds Try.pinned (OpenSpec.ofChange fnExactIsValidOpWrong)

/-- 'laws.FnExactAreWaits': WHATEVER THE INPUT: true; the input reads as it did. -/
def fnExactAreWaitsSpec : ChangeSpec := { name := "fnExactAreWaits", fn := fun _ => fun
  | [d] => { results := [.lit (.bool true)], args := [d] }
  | _ => none }
def fnExactAreWaitsRow : OpenClaim := { program := "ytfjhhmgbmfjloaa", sum := "4bf83de4b69f1354e261eeaa55b589af2b296e7d0d7f24917ed247c761ed9323", func := "loop.example/g01924/laws.FnExactAreWaits", spec := "fnExactAreWaits", apart := false }
def FnExactAreWaitsSaid : Prop := fnExactAreWaitsRow.holds Try.pinned (OpenSpec.ofChange fnExactAreWaitsSpec)

/-- ITS FALSE NEIGHBOUR: 'it returns false'. Refute it at one input. -/
def fnExactAreWaitsWrong : ChangeSpec := { name := "fnExactAreWaits", fn := fun _ => fun
  | [d] => { results := [.lit (.bool false)], args := [d] }
  | _ => none }
def FnExactAreWaitsWrongFalsely : Prop := fnExactAreWaitsRow.holds Try.pinned (OpenSpec.ofChange fnExactAreWaitsWrong)

/-- 'laws.FnExactAreLocks': WHATEVER THE INPUT: true; the input reads as it did. -/
def fnExactAreLocksSpec : ChangeSpec := { name := "fnExactAreLocks", fn := fun _ => fun
  | [d] => { results := [.lit (.bool true)], args := [d] }
  | _ => none }
def fnExactAreLocksRow : OpenClaim := { program := "ytfjhhmgbmfjloaa", sum := "4bf83de4b69f1354e261eeaa55b589af2b296e7d0d7f24917ed247c761ed9323", func := "loop.example/g01924/laws.FnExactAreLocks", spec := "fnExactAreLocks", apart := false }
def FnExactAreLocksSaid : Prop := fnExactAreLocksRow.holds Try.pinned (OpenSpec.ofChange fnExactAreLocksSpec)

/-- ITS FALSE NEIGHBOUR: 'it returns false'. Refute it at one input. -/
def fnExactAreLocksWrong : ChangeSpec := { name := "fnExactAreLocks", fn := fun _ => fun
  | [d] => { results := [.lit (.bool false)], args := [d] }
  | _ => none }
def FnExactAreLocksWrongFalsely : Prop := fnExactAreLocksRow.holds Try.pinned (OpenSpec.ofChange fnExactAreLocksWrong)

/-- 'laws.FnExactLockOwner': WHATEVER THE INPUT: true; the input reads as it did. -/
def fnExactLockOwnerSpec : ChangeSpec := { name := "fnExactLockOwner", fn := fun _ => fun
  | [d1, d2] => { results := [.lit (.bool true)], args := [d1, d2] }
  | _ => none }
def fnExactLockOwnerRow : OpenClaim := { program := "ytfjhhmgbmfjloaa", sum := "4bf83de4b69f1354e261eeaa55b589af2b296e7d0d7f24917ed247c761ed9323", func := "loop.example/g01924/laws.FnExactLockOwner", spec := "fnExactLockOwner", unfollowed := true, recurses := true, apart := false }
def FnExactLockOwnerSaid : Prop := fnExactLockOwnerRow.holds Try.pinned (OpenSpec.ofChange fnExactLockOwnerSpec)

/-- ITS FALSE NEIGHBOUR: 'it returns false'. Refute it at one input. -/
def fnExactLockOwnerWrong : ChangeSpec := { name := "fnExactLockOwner", fn := fun _ => fun
  | [d1, d2] => { results := [.lit (.bool false)], args := [d1, d2] }
  | _ => none }
def FnExactLockOwnerWrongFalsely : Prop := fnExactLockOwnerRow.holds Try.pinned (OpenSpec.ofChange fnExactLockOwnerWrong)

/-- 'laws.FnExactIsIndex': WHATEVER THE INPUT: true; the input reads as it did. -/
def fnExactIsIndexSpec : ChangeSpec := { name := "fnExactIsIndex", fn := fun _ => fun
  | [d] => { results := [.lit (.bool true)], args := [d] }
  | _ => none }
def fnExactIsIndexRow : OpenClaim := { program := "ytfjhhmgbmfjloaa", sum := "4bf83de4b69f1354e261eeaa55b589af2b296e7d0d7f24917ed247c761ed9323", func := "loop.example/g01924/laws.FnExactIsIndex", spec := "fnExactIsIndex", apart := false }
def FnExactIsIndexSaid : Prop := fnExactIsIndexRow.holds Try.pinned (OpenSpec.ofChange fnExactIsIndexSpec)

/-- ITS FALSE NEIGHBOUR: 'it returns false'. Refute it at one input. -/
def fnExactIsIndexWrong : ChangeSpec := { name := "fnExactIsIndex", fn := fun _ => fun
  | [d] => { results := [.lit (.bool false)], args := [d] }
  | _ => none }
def FnExactIsIndexWrongFalsely : Prop := fnExactIsIndexRow.holds Try.pinned (OpenSpec.ofChange fnExactIsIndexWrong)

/-- 'laws.FnExactEqualSteps': WHATEVER THE INPUT: true; the input reads as it did. -/
def fnExactEqualStepsSpec : ChangeSpec := { name := "fnExactEqualSteps", fn := fun _ => fun
  | [d1, d2] => { results := [.lit (.bool true)], args := [d1, d2] }
  | _ => none }
def fnExactEqualStepsRow : OpenClaim := { program := "ytfjhhmgbmfjloaa", sum := "4bf83de4b69f1354e261eeaa55b589af2b296e7d0d7f24917ed247c761ed9323", func := "loop.example/g01924/laws.FnExactEqualSteps", spec := "fnExactEqualSteps", apart := false }
def FnExactEqualStepsSaid : Prop := fnExactEqualStepsRow.holds Try.pinned (OpenSpec.ofChange fnExactEqualStepsSpec)

/-- ITS FALSE NEIGHBOUR: 'it returns false'. Refute it at one input. -/
def fnExactEqualStepsWrong : ChangeSpec := { name := "fnExactEqualSteps", fn := fun _ => fun
  | [d1, d2] => { results := [.lit (.bool false)], args := [d1, d2] }
  | _ => none }
def FnExactEqualStepsWrongFalsely : Prop := fnExactEqualStepsRow.holds Try.pinned (OpenSpec.ofChange fnExactEqualStepsWrong)

/-- 'laws.FnExactHasEdge': WHATEVER THE INPUT: true; the input reads as it did. -/
def fnExactHasEdgeSpec : ChangeSpec := { name := "fnExactHasEdge", fn := fun _ => fun
  | [d1, d2, d3] => { results := [.lit (.bool true)], args := [d1, d2, d3] }
  | _ => none }
def fnExactHasEdgeRow : OpenClaim := { program := "ytfjhhmgbmfjloaa", sum := "4bf83de4b69f1354e261eeaa55b589af2b296e7d0d7f24917ed247c761ed9323", func := "loop.example/g01924/laws.FnExactHasEdge", spec := "fnExactHasEdge", unfollowed := true, recurses := true, apart := false }
def FnExactHasEdgeSaid : Prop := fnExactHasEdgeRow.holds Try.pinned (OpenSpec.ofChange fnExactHasEdgeSpec)

/-- ITS FALSE NEIGHBOUR: 'it returns false'. Refute it at one input. -/
def fnExactHasEdgeWrong : ChangeSpec := { name := "fnExactHasEdge", fn := fun _ => fun
  | [d1, d2, d3] => { results := [.lit (.bool false)], args := [d1, d2, d3] }
  | _ => none }
def FnExactHasEdgeWrongFalsely : Prop := fnExactHasEdgeRow.holds Try.pinned (OpenSpec.ofChange fnExactHasEdgeWrong)

/-- 'laws.FnExactEqualOps': WHATEVER THE INPUT: true; the input reads as it did. -/
def fnExactEqualOpsSpec : ChangeSpec := { name := "fnExactEqualOps", fn := fun _ => fun
  | [d1, d2] => { results := [.lit (.bool true)], args := [d1, d2] }
  | _ => none }
def fnExactEqualOpsRow : OpenClaim := { program := "ytfjhhmgbmfjloaa", sum := "4bf83de4b69f1354e261eeaa55b589af2b296e7d0d7f24917ed247c761ed9323", func := "loop.example/g01924/laws.FnExactEqualOps", spec := "fnExactEqualOps", apart := false }
def FnExactEqualOpsSaid : Prop := fnExactEqualOpsRow.holds Try.pinned (OpenSpec.ofChange fnExactEqualOpsSpec)

/-- ITS FALSE NEIGHBOUR: 'it returns false'. Refute it at one input. -/
def fnExactEqualOpsWrong : ChangeSpec := { name := "fnExactEqualOps", fn := fun _ => fun
  | [d1, d2] => { results := [.lit (.bool false)], args := [d1, d2] }
  | _ => none }
def FnExactEqualOpsWrongFalsely : Prop := fnExactEqualOpsRow.holds Try.pinned (OpenSpec.ofChange fnExactEqualOpsWrong)

/-- 'laws.FnExactLocksOf': WHATEVER THE INPUT: true; the input reads as it did. -/
def fnExactLocksOfSpec : ChangeSpec := { name := "fnExactLocksOf", fn := fun _ => fun
  | [d1, d2] => { results := [.lit (.bool true)], args := [d1, d2] }
  | _ => none }
def fnExactLocksOfRow : OpenClaim := { program := "ytfjhhmgbmfjloaa", sum := "4bf83de4b69f1354e261eeaa55b589af2b296e7d0d7f24917ed247c761ed9323", func := "loop.example/g01924/laws.FnExactLocksOf", spec := "fnExactLocksOf", apart := false }
def FnExactLocksOfSaid : Prop := fnExactLocksOfRow.holds Try.pinned (OpenSpec.ofChange fnExactLocksOfSpec)

/-- ITS FALSE NEIGHBOUR: 'it returns false'. Refute it at one input. -/
def fnExactLocksOfWrong : ChangeSpec := { name := "fnExactLocksOf", fn := fun _ => fun
  | [d1, d2] => { results := [.lit (.bool false)], args := [d1, d2] }
  | _ => none }
def FnExactLocksOfWrongFalsely : Prop := fnExactLocksOfRow.holds Try.pinned (OpenSpec.ofChange fnExactLocksOfWrong)

/- THE SECOND FORM. 'bulk': how many values and letters a reading holds, each counted each time it is reached (what is shared counts as often as it is met; a slice's spare places count too). A statement '..UptoSaid' is the law's where the arguments, and the package variables that the reading takes, are together of bulk at most 1048576: NARROWER than '..Said'. Prove '..Said' where nothing that the law and all that it calls make is longer than what came in: it says more and counts as full. Else prove '..UptoSaid'. A law counts once. -/
mutual
def uptoBulk {H : Type} : DataW H → Nat
  | .lit (.string bytes) => bytes.length + 1
  | .lit _ => 1
  | .nil => 1
  | .ptr d => uptoBulk d + 1
  | .slice elems spare => uptoBulkAll elems + uptoBulkAll spare + 1
  | .agg parts => uptoBulkAll parts + 1
  | .iface _ d => uptoBulk d + 1
  | .map entries => uptoBulkEntries entries + 1
  | .held _ => 1
def uptoBulkAll {H : Type} : List (DataW H) → Nat
  | [] => 0
  | d :: r => uptoBulk d + uptoBulkAll r
def uptoBulkEntries {H : Type} : List (Lit × DataW H) → Nat
  | [] => 0
  | x :: r => uptoBulkEntry x + uptoBulkEntries r
def uptoBulkEntry {H : Type} : Lit × DataW H → Nat
  | (.string bytes, d) => bytes.length + uptoBulk d + 1
  | (_, d) => uptoBulk d + 1
 end
def uptoSmall : (H : Type) → List (DataW H) → Bool := fun _ ds => decide (uptoBulkAll ds ≤ 1048576)
def OpenSpec.upto (s : _root_.Go.ChangeSpec) : _root_.Go.OpenSpec := { _root_.Go.OpenSpec.ofChange s with cond := some uptoSmall }

/-- 'laws.FnExactTakesLocks', WHERE WHAT IT READS IS OF BULK AT MOST 1048576: true; the input reads as it did. -/
def fnExactTakesLocksUptoRow : OpenClaim := { program := "ytfjhhmgbmfjloaa", sum := "4bf83de4b69f1354e261eeaa55b589af2b296e7d0d7f24917ed247c761ed9323", func := "loop.example/g01924/laws.FnExactTakesLocks", spec := "fnExactTakesLocks", apart := false, narrowed := true }
def FnExactTakesLocksUptoSaid : Prop := fnExactTakesLocksUptoRow.holds Try.pinned (OpenSpec.upto fnExactTakesLocksSpec)

/-- 'laws.FnExactCodeName', WHERE WHAT IT READS IS OF BULK AT MOST 1048576: true; the input reads as it did. -/
def fnExactCodeNameUptoRow : OpenClaim := { program := "ytfjhhmgbmfjloaa", sum := "4bf83de4b69f1354e261eeaa55b589af2b296e7d0d7f24917ed247c761ed9323", func := "loop.example/g01924/laws.FnExactCodeName", spec := "fnExactCodeName", apart := false, narrowed := true }
def FnExactCodeNameUptoSaid : Prop := fnExactCodeNameUptoRow.holds Try.pinned (OpenSpec.upto fnExactCodeNameSpec)

/-- 'laws.FnExactNewIndex', WHERE WHAT IT READS IS OF BULK AT MOST 1048576: true; the input reads as it did. -/
def fnExactNewIndexUptoRow : OpenClaim := { program := "ytfjhhmgbmfjloaa", sum := "4bf83de4b69f1354e261eeaa55b589af2b296e7d0d7f24917ed247c761ed9323", func := "loop.example/g01924/laws.FnExactNewIndex", spec := "fnExactNewIndex", apart := false, narrowed := true }
def FnExactNewIndexUptoSaid : Prop := fnExactNewIndexUptoRow.holds Try.pinned (OpenSpec.upto fnExactNewIndexSpec)

/-- 'laws.FnExactIsValidOp', WHERE WHAT IT READS IS OF BULK AT MOST 1048576: true; the input reads as it did. -/
def fnExactIsValidOpUptoRow : OpenClaim := { program := "ytfjhhmgbmfjloaa", sum := "4bf83de4b69f1354e261eeaa55b589af2b296e7d0d7f24917ed247c761ed9323", func := "loop.example/g01924/laws.FnExactIsValidOp", spec := "fnExactIsValidOp", apart := false, narrowed := true }
def FnExactIsValidOpUptoSaid : Prop := fnExactIsValidOpUptoRow.holds Try.pinned (OpenSpec.upto fnExactIsValidOpSpec)

/-- 'laws.FnExactAreWaits', WHERE WHAT IT READS IS OF BULK AT MOST 1048576: true; the input reads as it did. -/
def fnExactAreWaitsUptoRow : OpenClaim := { program := "ytfjhhmgbmfjloaa", sum := "4bf83de4b69f1354e261eeaa55b589af2b296e7d0d7f24917ed247c761ed9323", func := "loop.example/g01924/laws.FnExactAreWaits", spec := "fnExactAreWaits", apart := false, narrowed := true }
def FnExactAreWaitsUptoSaid : Prop := fnExactAreWaitsUptoRow.holds Try.pinned (OpenSpec.upto fnExactAreWaitsSpec)

/-- 'laws.FnExactAreLocks', WHERE WHAT IT READS IS OF BULK AT MOST 1048576: true; the input reads as it did. -/
def fnExactAreLocksUptoRow : OpenClaim := { program := "ytfjhhmgbmfjloaa", sum := "4bf83de4b69f1354e261eeaa55b589af2b296e7d0d7f24917ed247c761ed9323", func := "loop.example/g01924/laws.FnExactAreLocks", spec := "fnExactAreLocks", apart := false, narrowed := true }
def FnExactAreLocksUptoSaid : Prop := fnExactAreLocksUptoRow.holds Try.pinned (OpenSpec.upto fnExactAreLocksSpec)

/-- 'laws.FnExactLockOwner', WHERE WHAT IT READS IS OF BULK AT MOST 1048576: true; the input reads as it did. -/
def fnExactLockOwnerUptoRow : OpenClaim := { program := "ytfjhhmgbmfjloaa", sum := "4bf83de4b69f1354e261eeaa55b589af2b296e7d0d7f24917ed247c761ed9323", func := "loop.example/g01924/laws.FnExactLockOwner", spec := "fnExactLockOwner", unfollowed := true, recurses := true, apart := false, narrowed := true }
def FnExactLockOwnerUptoSaid : Prop := fnExactLockOwnerUptoRow.holds Try.pinned (OpenSpec.upto fnExactLockOwnerSpec)

/-- 'laws.FnExactIsIndex', WHERE WHAT IT READS IS OF BULK AT MOST 1048576: true; the input reads as it did. -/
def fnExactIsIndexUptoRow : OpenClaim := { program := "ytfjhhmgbmfjloaa", sum := "4bf83de4b69f1354e261eeaa55b589af2b296e7d0d7f24917ed247c761ed9323", func := "loop.example/g01924/laws.FnExactIsIndex", spec := "fnExactIsIndex", apart := false, narrowed := true }
def FnExactIsIndexUptoSaid : Prop := fnExactIsIndexUptoRow.holds Try.pinned (OpenSpec.upto fnExactIsIndexSpec)

/-- 'laws.FnExactEqualSteps', WHERE WHAT IT READS IS OF BULK AT MOST 1048576: true; the input reads as it did. -/
def fnExactEqualStepsUptoRow : OpenClaim := { program := "ytfjhhmgbmfjloaa", sum := "4bf83de4b69f1354e261eeaa55b589af2b296e7d0d7f24917ed247c761ed9323", func := "loop.example/g01924/laws.FnExactEqualSteps", spec := "fnExactEqualSteps", apart := false, narrowed := true }
def FnExactEqualStepsUptoSaid : Prop := fnExactEqualStepsUptoRow.holds Try.pinned (OpenSpec.upto fnExactEqualStepsSpec)

/-- 'laws.FnExactHasEdge', WHERE WHAT IT READS IS OF BULK AT MOST 1048576: true; the input reads as it did. -/
def fnExactHasEdgeUptoRow : OpenClaim := { program := "ytfjhhmgbmfjloaa", sum := "4bf83de4b69f1354e261eeaa55b589af2b296e7d0d7f24917ed247c761ed9323", func := "loop.example/g01924/laws.FnExactHasEdge", spec := "fnExactHasEdge", unfollowed := true, recurses := true, apart := false, narrowed := true }
def FnExactHasEdgeUptoSaid : Prop := fnExactHasEdgeUptoRow.holds Try.pinned (OpenSpec.upto fnExactHasEdgeSpec)

/-- 'laws.FnExactEqualOps', WHERE WHAT IT READS IS OF BULK AT MOST 1048576: true; the input reads as it did. -/
def fnExactEqualOpsUptoRow : OpenClaim := { program := "ytfjhhmgbmfjloaa", sum := "4bf83de4b69f1354e261eeaa55b589af2b296e7d0d7f24917ed247c761ed9323", func := "loop.example/g01924/laws.FnExactEqualOps", spec := "fnExactEqualOps", apart := false, narrowed := true }
def FnExactEqualOpsUptoSaid : Prop := fnExactEqualOpsUptoRow.holds Try.pinned (OpenSpec.upto fnExactEqualOpsSpec)

/-- 'laws.FnExactLocksOf', WHERE WHAT IT READS IS OF BULK AT MOST 1048576: true; the input reads as it did. -/
def fnExactLocksOfUptoRow : OpenClaim := { program := "ytfjhhmgbmfjloaa", sum := "4bf83de4b69f1354e261eeaa55b589af2b296e7d0d7f24917ed247c761ed9323", func := "loop.example/g01924/laws.FnExactLocksOf", spec := "fnExactLocksOf", apart := false, narrowed := true }
def FnExactLocksOfUptoSaid : Prop := fnExactLocksOfUptoRow.holds Try.pinned (OpenSpec.upto fnExactLocksOfSpec)

end Rows
end Go.Proofs.Ytfjhhmgbmfjloaa
