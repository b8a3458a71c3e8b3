/-
  No cell of these rows narrows 'for every input' (looked for: loops, veiled, ifaces, maps, wideKeys, modest, calm, conditions, laid).
  DERIVED. THE GIVEN ROWS OF THIS SEAT. 12 by the template 'for every input the law returns true; each argument reads behind the call as it read before'; 0 by the template 'total and deterministic' (their statements: YtaopeedfmhmfgaaTotals.lean).
  GIVEN WITH THE SEED: the statements are not yours to turn. If you find one false, say at which input.
  Laid BY PROGRAM, IN A SANDBOX (cutbox-rows.mjs): the forced cells as the released guide's own fill.sh prints them over the translation 5088023ec570a805… (all of the seat's roots in one cut). By AI agents, Wed Nov 11 2026. No macro, syntax, notation, axiom, sorry.
-/
import Derived.Test.YtaopeedfmhmfgaaChecked
import GoSem.Claim
import GoSem.ClaimJoined
import GoSem.ClaimMapViews
import Derived.JoinedTies
import Derived.KernelRfl
namespace Go.Proofs.Ytaopeedfmhmfgaa
/- THE CELL 'sum', in the pinned program and in every row, IS THE sha256 OF THE DUMP (.gsa) THAT YtaopeedfmhmfgaaProg.lean LOADS. Nothing in Lean hashes anything: it is a label: what it is worth is what the hold of that sum in a sandbox is worth. -/
noncomputable def Try.pinned : Pinned := { name := "ytaopeedfmhmfgaa", sum := "5088023ec570a805855f50b4263c0498f13451bf5781c3f8529c4b8969294f09", checked := Try.checked }
namespace Rows
def none {H : Type} : Left H := { results := [], args := [] }

/-- 'laws.FnExactCountCode': WHATEVER THE INPUT: true; the input reads as it did. -/
def fnExactCountCodeSpec : ChangeSpec := { name := "fnExactCountCode", fn := fun _ => fun
  | [d1, d2] => { results := [.lit (.bool true)], args := [d1, d2] }
  | _ => none }
def fnExactCountCodeRow : OpenClaim := { program := "ytaopeedfmhmfgaa", sum := "5088023ec570a805855f50b4263c0498f13451bf5781c3f8529c4b8969294f09", func := "loop.example/g01924/laws.FnExactCountCode", spec := "fnExactCountCode", apart := false }
def FnExactCountCodeSaid : Prop := fnExactCountCodeRow.holds Try.pinned (OpenSpec.ofChange fnExactCountCodeSpec)

/-- ITS FALSE NEIGHBOUR: 'it returns false'. Refute it at one input. -/
def fnExactCountCodeWrong : ChangeSpec := { name := "fnExactCountCode", fn := fun _ => fun
  | [d1, d2] => { results := [.lit (.bool false)], args := [d1, d2] }
  | _ => none }
def FnExactCountCodeWrongFalsely : Prop := fnExactCountCodeRow.holds Try.pinned (OpenSpec.ofChange fnExactCountCodeWrong)

/-- 'laws.FnExactClearWaits': WHATEVER THE INPUT: true; the input reads as it did. -/
def fnExactClearWaitsSpec : ChangeSpec := { name := "fnExactClearWaits", fn := fun _ => fun
  | [d1, d2] => { results := [.lit (.bool true)], args := [d1, d2] }
  | _ => none }
def fnExactClearWaitsRow : OpenClaim := { program := "ytaopeedfmhmfgaa", sum := "5088023ec570a805855f50b4263c0498f13451bf5781c3f8529c4b8969294f09", func := "loop.example/g01924/laws.FnExactClearWaits", spec := "fnExactClearWaits", unfollowed := true, recurses := true, apart := false }
def FnExactClearWaitsSaid : Prop := fnExactClearWaitsRow.holds Try.pinned (OpenSpec.ofChange fnExactClearWaitsSpec)

/-- ITS FALSE NEIGHBOUR: 'it returns false'. Refute it at one input. -/
def fnExactClearWaitsWrong : ChangeSpec := { name := "fnExactClearWaits", fn := fun _ => fun
  | [d1, d2] => { results := [.lit (.bool false)], args := [d1, d2] }
  | _ => none }
def FnExactClearWaitsWrongFalsely : Prop := fnExactClearWaitsRow.holds Try.pinned (OpenSpec.ofChange fnExactClearWaitsWrong)

/-- 'laws.FnExactReleaseLocks': WHATEVER THE INPUT: true; the input reads as it did. -/
def fnExactReleaseLocksSpec : ChangeSpec := { name := "fnExactReleaseLocks", fn := fun _ => fun
  | [d1, d2] => { results := [.lit (.bool true)], args := [d1, d2] }
  | _ => none }
def fnExactReleaseLocksRow : OpenClaim := { program := "ytaopeedfmhmfgaa", sum := "5088023ec570a805855f50b4263c0498f13451bf5781c3f8529c4b8969294f09", func := "loop.example/g01924/laws.FnExactReleaseLocks", spec := "fnExactReleaseLocks", unfollowed := true, recurses := true, apart := false }
def FnExactReleaseLocksSaid : Prop := fnExactReleaseLocksRow.holds Try.pinned (OpenSpec.ofChange fnExactReleaseLocksSpec)

/-- ITS FALSE NEIGHBOUR: 'it returns false'. Refute it at one input. -/
def fnExactReleaseLocksWrong : ChangeSpec := { name := "fnExactReleaseLocks", fn := fun _ => fun
  | [d1, d2] => { results := [.lit (.bool false)], args := [d1, d2] }
  | _ => none }
def FnExactReleaseLocksWrongFalsely : Prop := fnExactReleaseLocksRow.holds Try.pinned (OpenSpec.ofChange fnExactReleaseLocksWrong)

/-- 'laws.FnExactIsProgram': WHATEVER THE INPUT: true; the input reads as it did. -/
def fnExactIsProgramSpec : ChangeSpec := { name := "fnExactIsProgram", fn := fun _ => fun
  | [d] => { results := [.lit (.bool true)], args := [d] }
  | _ => none }
def fnExactIsProgramRow : OpenClaim := { program := "ytaopeedfmhmfgaa", sum := "5088023ec570a805855f50b4263c0498f13451bf5781c3f8529c4b8969294f09", func := "loop.example/g01924/laws.FnExactIsProgram", spec := "fnExactIsProgram", apart := false }
def FnExactIsProgramSaid : Prop := fnExactIsProgramRow.holds Try.pinned (OpenSpec.ofChange fnExactIsProgramSpec)

/-- ITS FALSE NEIGHBOUR: 'it returns false'. Refute it at one input. -/
def fnExactIsProgramWrong : ChangeSpec := { name := "fnExactIsProgram", fn := fun _ => fun
  | [d] => { results := [.lit (.bool false)], args := [d] }
  | _ => none }
def FnExactIsProgramWrongFalsely : Prop := fnExactIsProgramRow.holds Try.pinned (OpenSpec.ofChange fnExactIsProgramWrong)

/-- 'laws.FnExactMarkIndex': WHATEVER THE INPUT: true; the input reads as it did. -/
def fnExactMarkIndexSpec : ChangeSpec := { name := "fnExactMarkIndex", fn := fun _ => fun
  | [d1, d2, d3] => { results := [.lit (.bool true)], args := [d1, d2, d3] }
  | _ => none }
def fnExactMarkIndexRow : OpenClaim := { program := "ytaopeedfmhmfgaa", sum := "5088023ec570a805855f50b4263c0498f13451bf5781c3f8529c4b8969294f09", func := "loop.example/g01924/laws.FnExactMarkIndex", spec := "fnExactMarkIndex", apart := false }
def FnExactMarkIndexSaid : Prop := fnExactMarkIndexRow.holds Try.pinned (OpenSpec.ofChange fnExactMarkIndexSpec)

/-- ITS FALSE NEIGHBOUR: 'it returns false'. Refute it at one input. -/
def fnExactMarkIndexWrong : ChangeSpec := { name := "fnExactMarkIndex", fn := fun _ => fun
  | [d1, d2, d3] => { results := [.lit (.bool false)], args := [d1, d2, d3] }
  | _ => none }
def FnExactMarkIndexWrongFalsely : Prop := fnExactMarkIndexRow.holds Try.pinned (OpenSpec.ofChange fnExactMarkIndexWrong)

/-- 'laws.FnExactNodesFor': WHATEVER THE INPUT: true; the input reads as it did. -/
def fnExactNodesForSpec : ChangeSpec := { name := "fnExactNodesFor", fn := fun _ => fun
  | [d1, d2, d3] => { results := [.lit (.bool true)], args := [d1, d2, d3] }
  | _ => none }
def fnExactNodesForRow : OpenClaim := { program := "ytaopeedfmhmfgaa", sum := "5088023ec570a805855f50b4263c0498f13451bf5781c3f8529c4b8969294f09", func := "loop.example/g01924/laws.FnExactNodesFor", spec := "fnExactNodesFor", unfollowed := true, recurses := true, apart := false }
def FnExactNodesForSaid : Prop := fnExactNodesForRow.holds Try.pinned (OpenSpec.ofChange fnExactNodesForSpec)

/-- ITS FALSE NEIGHBOUR: 'it returns false'. Refute it at one input. -/
def fnExactNodesForWrong : ChangeSpec := { name := "fnExactNodesFor", fn := fun _ => fun
  | [d1, d2, d3] => { results := [.lit (.bool false)], args := [d1, d2, d3] }
  | _ => none }
def FnExactNodesForWrongFalsely : Prop := fnExactNodesForRow.holds Try.pinned (OpenSpec.ofChange fnExactNodesForWrong)

/-- 'laws.FnExactScanIsFresh': WHATEVER THE INPUT: true; the input reads as it did. -/
def fnExactScanIsFreshSpec : ChangeSpec := { name := "fnExactScanIsFresh", fn := fun _ => fun
  | [d1, d2, d3, d4] => { results := [.lit (.bool true)], args := [d1, d2, d3, d4] }
  | _ => none }
def fnExactScanIsFreshRow : OpenClaim := { program := "ytaopeedfmhmfgaa", sum := "5088023ec570a805855f50b4263c0498f13451bf5781c3f8529c4b8969294f09", func := "loop.example/g01924/laws.FnExactScanIsFresh", spec := "fnExactScanIsFresh", unfollowed := true, recurses := true, apart := false }
def FnExactScanIsFreshSaid : Prop := fnExactScanIsFreshRow.holds Try.pinned (OpenSpec.ofChange fnExactScanIsFreshSpec)

/-- ITS FALSE NEIGHBOUR: 'it returns false'. Refute it at one input. -/
def fnExactScanIsFreshWrong : ChangeSpec := { name := "fnExactScanIsFresh", fn := fun _ => fun
  | [d1, d2, d3, d4] => { results := [.lit (.bool false)], args := [d1, d2, d3, d4] }
  | _ => none }
def FnExactScanIsFreshWrongFalsely : Prop := fnExactScanIsFreshRow.holds Try.pinned (OpenSpec.ofChange fnExactScanIsFreshWrong)

/-- 'laws.FnExactOpsOf': WHATEVER THE INPUT: true; the input reads as it did. -/
def fnExactOpsOfSpec : ChangeSpec := { name := "fnExactOpsOf", fn := fun _ => fun
  | [d1, d2] => { results := [.lit (.bool true)], args := [d1, d2] }
  | _ => none }
def fnExactOpsOfRow : OpenClaim := { program := "ytaopeedfmhmfgaa", sum := "5088023ec570a805855f50b4263c0498f13451bf5781c3f8529c4b8969294f09", func := "loop.example/g01924/laws.FnExactOpsOf", spec := "fnExactOpsOf", unfollowed := true, recurses := true, apart := false }
def FnExactOpsOfSaid : Prop := fnExactOpsOfRow.holds Try.pinned (OpenSpec.ofChange fnExactOpsOfSpec)

/-- ITS FALSE NEIGHBOUR: 'it returns false'. Refute it at one input. -/
def fnExactOpsOfWrong : ChangeSpec := { name := "fnExactOpsOf", fn := fun _ => fun
  | [d1, d2] => { results := [.lit (.bool false)], args := [d1, d2] }
  | _ => none }
def FnExactOpsOfWrongFalsely : Prop := fnExactOpsOfRow.holds Try.pinned (OpenSpec.ofChange fnExactOpsOfWrong)

/-- 'laws.FnExactWaitChain': WHATEVER THE INPUT: true; the input reads as it did. -/
def fnExactWaitChainSpec : ChangeSpec := { name := "fnExactWaitChain", fn := fun _ => fun
  | [d1, d2] => { results := [.lit (.bool true)], args := [d1, d2] }
  | _ => none }
def fnExactWaitChainRow : OpenClaim := { program := "ytaopeedfmhmfgaa", sum := "5088023ec570a805855f50b4263c0498f13451bf5781c3f8529c4b8969294f09", func := "loop.example/g01924/laws.FnExactWaitChain", spec := "fnExactWaitChain", unfollowed := true, recurses := true, apart := false }
def FnExactWaitChainSaid : Prop := fnExactWaitChainRow.holds Try.pinned (OpenSpec.ofChange fnExactWaitChainSpec)

/-- ITS FALSE NEIGHBOUR: 'it returns false'. Refute it at one input. -/
def fnExactWaitChainWrong : ChangeSpec := { name := "fnExactWaitChain", fn := fun _ => fun
  | [d1, d2] => { results := [.lit (.bool false)], args := [d1, d2] }
  | _ => none }
def FnExactWaitChainWrongFalsely : Prop := fnExactWaitChainRow.holds Try.pinned (OpenSpec.ofChange fnExactWaitChainWrong)

/-- 'laws.FnExactSplitNode': WHATEVER THE INPUT: true; the input reads as it did. -/
def fnExactSplitNodeSpec : ChangeSpec := { name := "fnExactSplitNode", fn := fun _ => fun
  | [d1, d2] => { results := [.lit (.bool true)], args := [d1, d2] }
  | _ => none }
def fnExactSplitNodeRow : OpenClaim := { program := "ytaopeedfmhmfgaa", sum := "5088023ec570a805855f50b4263c0498f13451bf5781c3f8529c4b8969294f09", func := "loop.example/g01924/laws.FnExactSplitNode", spec := "fnExactSplitNode", inPlace := ["slices.overlaps[loop.example/g01924/impl.IndexNode]"], unfollowed := true, recurses := true, apart := false }
def FnExactSplitNodeSaid : Prop := fnExactSplitNodeRow.holds Try.pinned (OpenSpec.ofChange fnExactSplitNodeSpec)

/-- ITS FALSE NEIGHBOUR: 'it returns false'. Refute it at one input. -/
def fnExactSplitNodeWrong : ChangeSpec := { name := "fnExactSplitNode", fn := fun _ => fun
  | [d1, d2] => { results := [.lit (.bool false)], args := [d1, d2] }
  | _ => none }
def FnExactSplitNodeWrongFalsely : Prop := fnExactSplitNodeRow.holds Try.pinned (OpenSpec.ofChange fnExactSplitNodeWrong)

/-- 'laws.FnExactSetWait': WHATEVER THE INPUT: true; the input reads as it did. -/
def fnExactSetWaitSpec : ChangeSpec := { name := "fnExactSetWait", fn := fun _ => fun
  | [d1, d2, d3] => { results := [.lit (.bool true)], args := [d1, d2, d3] }
  | _ => none }
def fnExactSetWaitRow : OpenClaim := { program := "ytaopeedfmhmfgaa", sum := "5088023ec570a805855f50b4263c0498f13451bf5781c3f8529c4b8969294f09", func := "loop.example/g01924/laws.FnExactSetWait", spec := "fnExactSetWait", inPlace := ["slices.overlaps[loop.example/g01924/impl.Wait]"], unfollowed := true, recurses := true, apart := false }
def FnExactSetWaitSaid : Prop := fnExactSetWaitRow.holds Try.pinned (OpenSpec.ofChange fnExactSetWaitSpec)

/-- ITS FALSE NEIGHBOUR: 'it returns false'. Refute it at one input. -/
def fnExactSetWaitWrong : ChangeSpec := { name := "fnExactSetWait", fn := fun _ => fun
  | [d1, d2, d3] => { results := [.lit (.bool false)], args := [d1, d2, d3] }
  | _ => none }
def FnExactSetWaitWrongFalsely : Prop := fnExactSetWaitRow.holds Try.pinned (OpenSpec.ofChange fnExactSetWaitWrong)

/-- 'laws.FnExactAcquireLock': WHATEVER THE INPUT: true; the input reads as it did. -/
def fnExactAcquireLockSpec : ChangeSpec := { name := "fnExactAcquireLock", fn := fun _ => fun
  | [d1, d2, d3] => { results := [.lit (.bool true)], args := [d1, d2, d3] }
  | _ => none }
def fnExactAcquireLockRow : OpenClaim := { program := "ytaopeedfmhmfgaa", sum := "5088023ec570a805855f50b4263c0498f13451bf5781c3f8529c4b8969294f09", func := "loop.example/g01924/laws.FnExactAcquireLock", spec := "fnExactAcquireLock", inPlace := ["slices.overlaps[loop.example/g01924/impl.Lock]"], unfollowed := true, recurses := true, apart := false }
def FnExactAcquireLockSaid : Prop := fnExactAcquireLockRow.holds Try.pinned (OpenSpec.ofChange fnExactAcquireLockSpec)

/-- ITS FALSE NEIGHBOUR: 'it returns false'. Refute it at one input. -/
def fnExactAcquireLockWrong : ChangeSpec := { name := "fnExactAcquireLock", fn := fun _ => fun
  | [d1, d2, d3] => { results := [.lit (.bool false)], args := [d1, d2, d3] }
  | _ => none }
def FnExactAcquireLockWrongFalsely : Prop := fnExactAcquireLockRow.holds Try.pinned (OpenSpec.ofChange fnExactAcquireLockWrong)

/- THE SECOND FORM. 'bulk': how many values and letters a reading holds, each counted each time it is reached (what is shared counts as often as it is met; a slice's spare places count too). A statement '..UptoSaid' is the law's where the arguments, and the package variables that the reading takes, are together of bulk at most 1048576: NARROWER than '..Said'. Prove '..Said' where nothing that the law and all that it calls make is longer than what came in: it says more and counts as full. Else prove '..UptoSaid'. A law counts once. -/
mutual
def uptoBulk {H : Type} : DataW H → Nat
  | .lit (.string bytes) => bytes.length + 1
  | .lit _ => 1
  | .nil => 1
  | .ptr d => uptoBulk d + 1
  | .slice elems spare => uptoBulkAll elems + uptoBulkAll spare + 1
  | .agg parts => uptoBulkAll parts + 1
  | .iface _ d => uptoBulk d + 1
  | .map entries => uptoBulkEntries entries + 1
  | .held _ => 1
def uptoBulkAll {H : Type} : List (DataW H) → Nat
  | [] => 0
  | d :: r => uptoBulk d + uptoBulkAll r
def uptoBulkEntries {H : Type} : List (Lit × DataW H) → Nat
  | [] => 0
  | x :: r => uptoBulkEntry x + uptoBulkEntries r
def uptoBulkEntry {H : Type} : Lit × DataW H → Nat
  | (.string bytes, d) => bytes.length + uptoBulk d + 1
  | (_, d) => uptoBulk d + 1
 end
def uptoSmall : (H : Type) → List (DataW H) → Bool := fun _ ds => decide (uptoBulkAll ds ≤ 1048576)
def OpenSpec.upto (s : _root_.Go.ChangeSpec) : _root_.Go.OpenSpec := { _root_.Go.OpenSpec.ofChange s with cond := some uptoSmall }

/-- 'laws.FnExactCountCode', WHERE WHAT IT READS IS OF BULK AT MOST 1048576: true; the input reads as it did. -/
def fnExactCountCodeUptoRow : OpenClaim := { program := "ytaopeedfmhmfgaa", sum := "5088023ec570a805855f50b4263c0498f13451bf5781c3f8529c4b8969294f09", func := "loop.example/g01924/laws.FnExactCountCode", spec := "fnExactCountCode", apart := false, narrowed := true }
def FnExactCountCodeUptoSaid : Prop := fnExactCountCodeUptoRow.holds Try.pinned (OpenSpec.upto fnExactCountCodeSpec)

/-- 'laws.FnExactClearWaits', WHERE WHAT IT READS IS OF BULK AT MOST 1048576: true; the input reads as it did. -/
def fnExactClearWaitsUptoRow : OpenClaim := { program := "ytaopeedfmhmfgaa", sum := "5088023ec570a805855f50b4263c0498f13451bf5781c3f8529c4b8969294f09", func := "loop.example/g01924/laws.FnExactClearWaits", spec := "fnExactClearWaits", unfollowed := true, recurses := true, apart := false, narrowed := true }
def FnExactClearWaitsUptoSaid : Prop := fnExactClearWaitsUptoRow.holds Try.pinned (OpenSpec.upto fnExactClearWaitsSpec)

/-- 'laws.FnExactReleaseLocks', WHERE WHAT IT READS IS OF BULK AT MOST 1048576: true; the input reads as it did. -/
def fnExactReleaseLocksUptoRow : OpenClaim := { program := "ytaopeedfmhmfgaa", sum := "5088023ec570a805855f50b4263c0498f13451bf5781c3f8529c4b8969294f09", func := "loop.example/g01924/laws.FnExactReleaseLocks", spec := "fnExactReleaseLocks", unfollowed := true, recurses := true, apart := false, narrowed := true }
def FnExactReleaseLocksUptoSaid : Prop := fnExactReleaseLocksUptoRow.holds Try.pinned (OpenSpec.upto fnExactReleaseLocksSpec)

/-- 'laws.FnExactIsProgram', WHERE WHAT IT READS IS OF BULK AT MOST 1048576: true; the input reads as it did. -/
def fnExactIsProgramUptoRow : OpenClaim := { program := "ytaopeedfmhmfgaa", sum := "5088023ec570a805855f50b4263c0498f13451bf5781c3f8529c4b8969294f09", func := "loop.example/g01924/laws.FnExactIsProgram", spec := "fnExactIsProgram", apart := false, narrowed := true }
def FnExactIsProgramUptoSaid : Prop := fnExactIsProgramUptoRow.holds Try.pinned (OpenSpec.upto fnExactIsProgramSpec)

/-- 'laws.FnExactMarkIndex', WHERE WHAT IT READS IS OF BULK AT MOST 1048576: true; the input reads as it did. -/
def fnExactMarkIndexUptoRow : OpenClaim := { program := "ytaopeedfmhmfgaa", sum := "5088023ec570a805855f50b4263c0498f13451bf5781c3f8529c4b8969294f09", func := "loop.example/g01924/laws.FnExactMarkIndex", spec := "fnExactMarkIndex", apart := false, narrowed := true }
def FnExactMarkIndexUptoSaid : Prop := fnExactMarkIndexUptoRow.holds Try.pinned (OpenSpec.upto fnExactMarkIndexSpec)

/-- 'laws.FnExactNodesFor', WHERE WHAT IT READS IS OF BULK AT MOST 1048576: true; the input reads as it did. -/
def fnExactNodesForUptoRow : OpenClaim := { program := "ytaopeedfmhmfgaa", sum := "5088023ec570a805855f50b4263c0498f13451bf5781c3f8529c4b8969294f09", func := "loop.example/g01924/laws.FnExactNodesFor", spec := "fnExactNodesFor", unfollowed := true, recurses := true, apart := false, narrowed := true }
def FnExactNodesForUptoSaid : Prop := fnExactNodesForUptoRow.holds Try.pinned (OpenSpec.upto fnExactNodesForSpec)

/-- 'laws.FnExactScanIsFresh', WHERE WHAT IT READS IS OF BULK AT MOST 1048576: true; the input reads as it did. -/
def fnExactScanIsFreshUptoRow : OpenClaim := { program := "ytaopeedfmhmfgaa", sum := "5088023ec570a805855f50b4263c0498f13451bf5781c3f8529c4b8969294f09", func := "loop.example/g01924/laws.FnExactScanIsFresh", spec := "fnExactScanIsFresh", unfollowed := true, recurses := true, apart := false, narrowed := true }
def FnExactScanIsFreshUptoSaid : Prop := fnExactScanIsFreshUptoRow.holds Try.pinned (OpenSpec.upto fnExactScanIsFreshSpec)

/-- 'laws.FnExactOpsOf', WHERE WHAT IT READS IS OF BULK AT MOST 1048576: true; the input reads as it did. -/
def fnExactOpsOfUptoRow : OpenClaim := { program := "ytaopeedfmhmfgaa", sum := "5088023ec570a805855f50b4263c0498f13451bf5781c3f8529c4b8969294f09", func := "loop.example/g01924/laws.FnExactOpsOf", spec := "fnExactOpsOf", unfollowed := true, recurses := true, apart := false, narrowed := true }
def FnExactOpsOfUptoSaid : Prop := fnExactOpsOfUptoRow.holds Try.pinned (OpenSpec.upto fnExactOpsOfSpec)

/-- 'laws.FnExactWaitChain', WHERE WHAT IT READS IS OF BULK AT MOST 1048576: true; the input reads as it did. -/
def fnExactWaitChainUptoRow : OpenClaim := { program := "ytaopeedfmhmfgaa", sum := "5088023ec570a805855f50b4263c0498f13451bf5781c3f8529c4b8969294f09", func := "loop.example/g01924/laws.FnExactWaitChain", spec := "fnExactWaitChain", unfollowed := true, recurses := true, apart := false, narrowed := true }
def FnExactWaitChainUptoSaid : Prop := fnExactWaitChainUptoRow.holds Try.pinned (OpenSpec.upto fnExactWaitChainSpec)

/-- 'laws.FnExactSplitNode', WHERE WHAT IT READS IS OF BULK AT MOST 1048576: true; the input reads as it did. -/
def fnExactSplitNodeUptoRow : OpenClaim := { program := "ytaopeedfmhmfgaa", sum := "5088023ec570a805855f50b4263c0498f13451bf5781c3f8529c4b8969294f09", func := "loop.example/g01924/laws.FnExactSplitNode", spec := "fnExactSplitNode", inPlace := ["slices.overlaps[loop.example/g01924/impl.IndexNode]"], unfollowed := true, recurses := true, apart := false, narrowed := true }
def FnExactSplitNodeUptoSaid : Prop := fnExactSplitNodeUptoRow.holds Try.pinned (OpenSpec.upto fnExactSplitNodeSpec)

/-- 'laws.FnExactSetWait', WHERE WHAT IT READS IS OF BULK AT MOST 1048576: true; the input reads as it did. -/
def fnExactSetWaitUptoRow : OpenClaim := { program := "ytaopeedfmhmfgaa", sum := "5088023ec570a805855f50b4263c0498f13451bf5781c3f8529c4b8969294f09", func := "loop.example/g01924/laws.FnExactSetWait", spec := "fnExactSetWait", inPlace := ["slices.overlaps[loop.example/g01924/impl.Wait]"], unfollowed := true, recurses := true, apart := false, narrowed := true }
def FnExactSetWaitUptoSaid : Prop := fnExactSetWaitUptoRow.holds Try.pinned (OpenSpec.upto fnExactSetWaitSpec)

/-- 'laws.FnExactAcquireLock', WHERE WHAT IT READS IS OF BULK AT MOST 1048576: true; the input reads as it did. -/
def fnExactAcquireLockUptoRow : OpenClaim := { program := "ytaopeedfmhmfgaa", sum := "5088023ec570a805855f50b4263c0498f13451bf5781c3f8529c4b8969294f09", func := "loop.example/g01924/laws.FnExactAcquireLock", spec := "fnExactAcquireLock", inPlace := ["slices.overlaps[loop.example/g01924/impl.Lock]"], unfollowed := true, recurses := true, apart := false, narrowed := true }
def FnExactAcquireLockUptoSaid : Prop := fnExactAcquireLockUptoRow.holds Try.pinned (OpenSpec.upto fnExactAcquireLockSpec)

end Rows
end Go.Proofs.Ytaopeedfmhmfgaa
