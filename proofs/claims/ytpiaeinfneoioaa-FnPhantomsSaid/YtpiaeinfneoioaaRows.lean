/-
  No cell of these rows narrows 'for every input' (looked for: loops, veiled, ifaces, maps, wideKeys, modest, calm, conditions, laid).
  DERIVED. THE GIVEN ROWS OF THIS SEAT. 12 by the template 'for every input the law returns true; each argument reads behind the call as it read before'; 0 by the template 'total and deterministic' (their statements: YtpiaeinfneoioaaTotals.lean).
  GIVEN WITH THE SEED: the statements are not yours to turn. If you find one false, say at which input.
  Laid BY PROGRAM, IN A SANDBOX (cutbox-rows.mjs): the forced cells as the released guide's own fill.sh prints them over the translation 5b8a54f45b7bd24f… (all of the seat's roots in one cut). By AI agents, Wed Nov 11 2026. No macro, syntax, notation, axiom, sorry.
-/
import Derived.Test.YtpiaeinfneoioaaChecked
import GoSem.Claim
import GoSem.ClaimJoined
import GoSem.ClaimMapViews
import Derived.JoinedTies
import Derived.KernelRfl
namespace Go.Proofs.Ytpiaeinfneoioaa
/- THE CELL 'sum', in the pinned program and in every row, IS THE sha256 OF THE DUMP (.gsa) THAT YtpiaeinfneoioaaProg.lean LOADS. Nothing in Lean hashes anything: it is a label: what it is worth is what the hold of that sum in a sandbox is worth. -/
noncomputable def Try.pinned : Pinned := { name := "ytpiaeinfneoioaa", sum := "5b8a54f45b7bd24f7d05db3af134998517e6cead3077a62e5c96e16863159442", checked := Try.checked }
namespace Rows
def none {H : Type} : Left H := { results := [], args := [] }

/-- 'laws.FnExactFindEntry': WHATEVER THE INPUT: true; the input reads as it did. -/
def fnExactFindEntrySpec : ChangeSpec := { name := "fnExactFindEntry", fn := fun _ => fun
  | [d1, d2] => { results := [.lit (.bool true)], args := [d1, d2] }
  | _ => none }
def fnExactFindEntryRow : OpenClaim := { program := "ytpiaeinfneoioaa", sum := "5b8a54f45b7bd24f7d05db3af134998517e6cead3077a62e5c96e16863159442", func := "loop.example/g01924/laws.FnExactFindEntry", spec := "fnExactFindEntry", unfollowed := true, recurses := true, apart := false }
def FnExactFindEntrySaid : Prop := fnExactFindEntryRow.holds Try.pinned (OpenSpec.ofChange fnExactFindEntrySpec)

/-- ITS FALSE NEIGHBOUR: 'it returns false'. Refute it at one input. -/
def fnExactFindEntryWrong : ChangeSpec := { name := "fnExactFindEntry", fn := fun _ => fun
  | [d1, d2] => { results := [.lit (.bool false)], args := [d1, d2] }
  | _ => none }
def FnExactFindEntryWrongFalsely : Prop := fnExactFindEntryRow.holds Try.pinned (OpenSpec.ofChange fnExactFindEntryWrong)

/-- 'laws.FnExactWriterOf': WHATEVER THE INPUT: true; the input reads as it did. -/
def fnExactWriterOfSpec : ChangeSpec := { name := "fnExactWriterOf", fn := fun _ => fun
  | [d1, d2] => { results := [.lit (.bool true)], args := [d1, d2] }
  | _ => none }
def fnExactWriterOfRow : OpenClaim := { program := "ytpiaeinfneoioaa", sum := "5b8a54f45b7bd24f7d05db3af134998517e6cead3077a62e5c96e16863159442", func := "loop.example/g01924/laws.FnExactWriterOf", spec := "fnExactWriterOf", unfollowed := true, recurses := true, apart := false }
def FnExactWriterOfSaid : Prop := fnExactWriterOfRow.holds Try.pinned (OpenSpec.ofChange fnExactWriterOfSpec)

/-- ITS FALSE NEIGHBOUR: 'it returns false'. Refute it at one input. -/
def fnExactWriterOfWrong : ChangeSpec := { name := "fnExactWriterOf", fn := fun _ => fun
  | [d1, d2] => { results := [.lit (.bool false)], args := [d1, d2] }
  | _ => none }
def FnExactWriterOfWrongFalsely : Prop := fnExactWriterOfRow.holds Try.pinned (OpenSpec.ofChange fnExactWriterOfWrong)

/-- 'laws.FnExactMergePrograms': WHATEVER THE INPUT: true; the input reads as it did. -/
def fnExactMergeProgramsSpec : ChangeSpec := { name := "fnExactMergePrograms", fn := fun _ => fun
  | [d1, d2] => { results := [.lit (.bool true)], args := [d1, d2] }
  | _ => none }
def fnExactMergeProgramsRow : OpenClaim := { program := "ytpiaeinfneoioaa", sum := "5b8a54f45b7bd24f7d05db3af134998517e6cead3077a62e5c96e16863159442", func := "loop.example/g01924/laws.FnExactMergePrograms", spec := "fnExactMergePrograms", apart := false }
def FnExactMergeProgramsSaid : Prop := fnExactMergeProgramsRow.holds Try.pinned (OpenSpec.ofChange fnExactMergeProgramsSpec)

/-- ITS FALSE NEIGHBOUR: 'it returns false'. Refute it at one input. -/
def fnExactMergeProgramsWrong : ChangeSpec := { name := "fnExactMergePrograms", fn := fun _ => fun
  | [d1, d2] => { results := [.lit (.bool false)], args := [d1, d2] }
  | _ => none }
def FnExactMergeProgramsWrongFalsely : Prop := fnExactMergeProgramsRow.holds Try.pinned (OpenSpec.ofChange fnExactMergeProgramsWrong)

/-- 'laws.FnExactEqualHistories': WHATEVER THE INPUT: true; the input reads as it did. -/
def fnExactEqualHistoriesSpec : ChangeSpec := { name := "fnExactEqualHistories", fn := fun _ => fun
  | [d1, d2] => { results := [.lit (.bool true)], args := [d1, d2] }
  | _ => none }
def fnExactEqualHistoriesRow : OpenClaim := { program := "ytpiaeinfneoioaa", sum := "5b8a54f45b7bd24f7d05db3af134998517e6cead3077a62e5c96e16863159442", func := "loop.example/g01924/laws.FnExactEqualHistories", spec := "fnExactEqualHistories", unfollowed := true, recurses := true, apart := false }
def FnExactEqualHistoriesSaid : Prop := fnExactEqualHistoriesRow.holds Try.pinned (OpenSpec.ofChange fnExactEqualHistoriesSpec)

/-- ITS FALSE NEIGHBOUR: 'it returns false'. Refute it at one input. -/
def fnExactEqualHistoriesWrong : ChangeSpec := { name := "fnExactEqualHistories", fn := fun _ => fun
  | [d1, d2] => { results := [.lit (.bool false)], args := [d1, d2] }
  | _ => none }
def FnExactEqualHistoriesWrongFalsely : Prop := fnExactEqualHistoriesRow.holds Try.pinned (OpenSpec.ofChange fnExactEqualHistoriesWrong)

/-- 'laws.FnMerges': WHATEVER THE INPUT: true; the input reads as it did. -/
def fnMergesSpec : ChangeSpec := { name := "fnMerges", fn := fun _ => fun
  | [d] => { results := [.lit (.bool true)], args := [d] }
  | _ => none }
def fnMergesRow : OpenClaim := { program := "ytpiaeinfneoioaa", sum := "5b8a54f45b7bd24f7d05db3af134998517e6cead3077a62e5c96e16863159442", func := "loop.example/g01924/laws.FnMerges", spec := "fnMerges", apart := false }
def FnMergesSaid : Prop := fnMergesRow.holds Try.pinned (OpenSpec.ofChange fnMergesSpec)

/-- ITS FALSE NEIGHBOUR: 'it returns false'. Refute it at one input. -/
def fnMergesWrong : ChangeSpec := { name := "fnMerges", fn := fun _ => fun
  | [d] => { results := [.lit (.bool false)], args := [d] }
  | _ => none }
def FnMergesWrongFalsely : Prop := fnMergesRow.holds Try.pinned (OpenSpec.ofChange fnMergesWrong)

/-- 'laws.FnExactCommittedStamp': WHATEVER THE INPUT: true; the input reads as it did. -/
def fnExactCommittedStampSpec : ChangeSpec := { name := "fnExactCommittedStamp", fn := fun _ => fun
  | [d] => { results := [.lit (.bool true)], args := [d] }
  | _ => none }
def fnExactCommittedStampRow : OpenClaim := { program := "ytpiaeinfneoioaa", sum := "5b8a54f45b7bd24f7d05db3af134998517e6cead3077a62e5c96e16863159442", func := "loop.example/g01924/laws.FnExactCommittedStamp", spec := "fnExactCommittedStamp", apart := false }
def FnExactCommittedStampSaid : Prop := fnExactCommittedStampRow.holds Try.pinned (OpenSpec.ofChange fnExactCommittedStampSpec)

/-- ITS FALSE NEIGHBOUR: 'it returns false'. Refute it at one input. -/
def fnExactCommittedStampWrong : ChangeSpec := { name := "fnExactCommittedStamp", fn := fun _ => fun
  | [d] => { results := [.lit (.bool false)], args := [d] }
  | _ => none }
def FnExactCommittedStampWrongFalsely : Prop := fnExactCommittedStampRow.holds Try.pinned (OpenSpec.ofChange fnExactCommittedStampWrong)

/-- 'laws.FnPhantoms': WHATEVER THE INPUT: true; the input reads as it did. -/
def fnPhantomsSpec : ChangeSpec := { name := "fnPhantoms", fn := fun _ => fun
  | [d] => { results := [.lit (.bool true)], args := [d] }
  | _ => none }
def fnPhantomsRow : OpenClaim := { program := "ytpiaeinfneoioaa", sum := "5b8a54f45b7bd24f7d05db3af134998517e6cead3077a62e5c96e16863159442", func := "loop.example/g01924/laws.FnPhantoms", spec := "fnPhantoms", unfollowed := true, recurses := true, apart := false }
def FnPhantomsSaid : Prop := fnPhantomsRow.holds Try.pinned (OpenSpec.ofChange fnPhantomsSpec)

/-- ITS FALSE NEIGHBOUR: 'it returns false'. Refute it at one input. -/
def fnPhantomsWrong : ChangeSpec := { name := "fnPhantoms", fn := fun _ => fun
  | [d] => { results := [.lit (.bool false)], args := [d] }
  | _ => none }
def FnPhantomsWrongFalsely : Prop := fnPhantomsRow.holds Try.pinned (OpenSpec.ofChange fnPhantomsWrong)

/-- 'laws.FnLocks': WHATEVER THE INPUT: true; the input reads as it did. -/
def fnLocksSpec : ChangeSpec := { name := "fnLocks", fn := fun _ => fun
  | [d] => { results := [.lit (.bool true)], args := [d] }
  | _ => none }
def fnLocksRow : OpenClaim := { program := "ytpiaeinfneoioaa", sum := "5b8a54f45b7bd24f7d05db3af134998517e6cead3077a62e5c96e16863159442", func := "loop.example/g01924/laws.FnLocks", spec := "fnLocks", inPlace := ["slices.overlaps[loop.example/g01924/impl.Lock]"], unfollowed := true, recurses := true, apart := false }
def FnLocksSaid : Prop := fnLocksRow.holds Try.pinned (OpenSpec.ofChange fnLocksSpec)

/-- ITS FALSE NEIGHBOUR: 'it returns false'. Refute it at one input. -/
def fnLocksWrong : ChangeSpec := { name := "fnLocks", fn := fun _ => fun
  | [d] => { results := [.lit (.bool false)], args := [d] }
  | _ => none }
def FnLocksWrongFalsely : Prop := fnLocksRow.holds Try.pinned (OpenSpec.ofChange fnLocksWrong)

/-- 'laws.FnExactIndexOf': WHATEVER THE INPUT: true; the input reads as it did. -/
def fnExactIndexOfSpec : ChangeSpec := { name := "fnExactIndexOf", fn := fun _ => fun
  | [d] => { results := [.lit (.bool true)], args := [d] }
  | _ => none }
def fnExactIndexOfRow : OpenClaim := { program := "ytpiaeinfneoioaa", sum := "5b8a54f45b7bd24f7d05db3af134998517e6cead3077a62e5c96e16863159442", func := "loop.example/g01924/laws.FnExactIndexOf", spec := "fnExactIndexOf", unfollowed := true, recurses := true, apart := false }
def FnExactIndexOfSaid : Prop := fnExactIndexOfRow.holds Try.pinned (OpenSpec.ofChange fnExactIndexOfSpec)

/-- ITS FALSE NEIGHBOUR: 'it returns false'. Refute it at one input. -/
def fnExactIndexOfWrong : ChangeSpec := { name := "fnExactIndexOf", fn := fun _ => fun
  | [d] => { results := [.lit (.bool false)], args := [d] }
  | _ => none }
def FnExactIndexOfWrongFalsely : Prop := fnExactIndexOfRow.holds Try.pinned (OpenSpec.ofChange fnExactIndexOfWrong)

/-- 'laws.FnExactWouldDeadlock': WHATEVER THE INPUT: true; the input reads as it did. -/
def fnExactWouldDeadlockSpec : ChangeSpec := { name := "fnExactWouldDeadlock", fn := fun _ => fun
  | [d1, d2, d3] => { results := [.lit (.bool true)], args := [d1, d2, d3] }
  | _ => none }
def fnExactWouldDeadlockRow : OpenClaim := { program := "ytpiaeinfneoioaa", sum := "5b8a54f45b7bd24f7d05db3af134998517e6cead3077a62e5c96e16863159442", func := "loop.example/g01924/laws.FnExactWouldDeadlock", spec := "fnExactWouldDeadlock", inPlace := ["slices.overlaps[loop.example/g01924/impl.Wait]"], unfollowed := true, recurses := true, apart := false }
def FnExactWouldDeadlockSaid : Prop := fnExactWouldDeadlockRow.holds Try.pinned (OpenSpec.ofChange fnExactWouldDeadlockSpec)

/-- ITS FALSE NEIGHBOUR: 'it returns false'. Refute it at one input. -/
def fnExactWouldDeadlockWrong : ChangeSpec := { name := "fnExactWouldDeadlock", fn := fun _ => fun
  | [d1, d2, d3] => { results := [.lit (.bool false)], args := [d1, d2, d3] }
  | _ => none }
def FnExactWouldDeadlockWrongFalsely : Prop := fnExactWouldDeadlockRow.holds Try.pinned (OpenSpec.ofChange fnExactWouldDeadlockWrong)

/-- 'laws.FnExactIsHistory': WHATEVER THE INPUT: true; the input reads as it did. -/
def fnExactIsHistorySpec : ChangeSpec := { name := "fnExactIsHistory", fn := fun _ => fun
  | [d] => { results := [.lit (.bool true)], args := [d] }
  | _ => none }
def fnExactIsHistoryRow : OpenClaim := { program := "ytpiaeinfneoioaa", sum := "5b8a54f45b7bd24f7d05db3af134998517e6cead3077a62e5c96e16863159442", func := "loop.example/g01924/laws.FnExactIsHistory", spec := "fnExactIsHistory", unfollowed := true, recurses := true, apart := false }
def FnExactIsHistorySaid : Prop := fnExactIsHistoryRow.holds Try.pinned (OpenSpec.ofChange fnExactIsHistorySpec)

/-- ITS FALSE NEIGHBOUR: 'it returns false'. Refute it at one input. -/
def fnExactIsHistoryWrong : ChangeSpec := { name := "fnExactIsHistory", fn := fun _ => fun
  | [d] => { results := [.lit (.bool false)], args := [d] }
  | _ => none }
def FnExactIsHistoryWrongFalsely : Prop := fnExactIsHistoryRow.holds Try.pinned (OpenSpec.ofChange fnExactIsHistoryWrong)

/-- 'laws.FnIndexes': WHATEVER THE INPUT: true; the input reads as it did. -/
def fnIndexesSpec : ChangeSpec := { name := "fnIndexes", fn := fun _ => fun
  | [d] => { results := [.lit (.bool true)], args := [d] }
  | _ => none }
def fnIndexesRow : OpenClaim := { program := "ytpiaeinfneoioaa", sum := "5b8a54f45b7bd24f7d05db3af134998517e6cead3077a62e5c96e16863159442", func := "loop.example/g01924/laws.FnIndexes", spec := "fnIndexes", inPlace := ["slices.overlaps[loop.example/g01924/impl.IndexNode]"], unfollowed := true, recurses := true, apart := false }
def FnIndexesSaid : Prop := fnIndexesRow.holds Try.pinned (OpenSpec.ofChange fnIndexesSpec)

/-- ITS FALSE NEIGHBOUR: 'it returns false'. Refute it at one input. -/
def fnIndexesWrong : ChangeSpec := { name := "fnIndexes", fn := fun _ => fun
  | [d] => { results := [.lit (.bool false)], args := [d] }
  | _ => none }
def FnIndexesWrongFalsely : Prop := fnIndexesRow.holds Try.pinned (OpenSpec.ofChange fnIndexesWrong)

/- THE SECOND FORM. 'bulk': how many values and letters a reading holds, each counted each time it is reached (what is shared counts as often as it is met; a slice's spare places count too). A statement '..UptoSaid' is the law's where the arguments, and the package variables that the reading takes, are together of bulk at most 1048576: NARROWER than '..Said'. Prove '..Said' where nothing that the law and all that it calls make is longer than what came in: it says more and counts as full. Else prove '..UptoSaid'. A law counts once. -/
mutual
def uptoBulk {H : Type} : DataW H → Nat
  | .lit (.string bytes) => bytes.length + 1
  | .lit _ => 1
  | .nil => 1
  | .ptr d => uptoBulk d + 1
  | .slice elems spare => uptoBulkAll elems + uptoBulkAll spare + 1
  | .agg parts => uptoBulkAll parts + 1
  | .iface _ d => uptoBulk d + 1
  | .map entries => uptoBulkEntries entries + 1
  | .held _ => 1
def uptoBulkAll {H : Type} : List (DataW H) → Nat
  | [] => 0
  | d :: r => uptoBulk d + uptoBulkAll r
def uptoBulkEntries {H : Type} : List (Lit × DataW H) → Nat
  | [] => 0
  | x :: r => uptoBulkEntry x + uptoBulkEntries r
def uptoBulkEntry {H : Type} : Lit × DataW H → Nat
  | (.string bytes, d) => bytes.length + uptoBulk d + 1
  | (_, d) => uptoBulk d + 1
 end
def uptoSmall : (H : Type) → List (DataW H) → Bool := fun _ ds => decide (uptoBulkAll ds ≤ 1048576)
def OpenSpec.upto (s : _root_.Go.ChangeSpec) : _root_.Go.OpenSpec := { _root_.Go.OpenSpec.ofChange s with cond := some uptoSmall }

/-- 'laws.FnExactFindEntry', WHERE WHAT IT READS IS OF BULK AT MOST 1048576: true; the input reads as it did. -/
def fnExactFindEntryUptoRow : OpenClaim := { program := "ytpiaeinfneoioaa", sum := "5b8a54f45b7bd24f7d05db3af134998517e6cead3077a62e5c96e16863159442", func := "loop.example/g01924/laws.FnExactFindEntry", spec := "fnExactFindEntry", unfollowed := true, recurses := true, apart := false, narrowed := true }
def FnExactFindEntryUptoSaid : Prop := fnExactFindEntryUptoRow.holds Try.pinned (OpenSpec.upto fnExactFindEntrySpec)

/-- 'laws.FnExactWriterOf', WHERE WHAT IT READS IS OF BULK AT MOST 1048576: true; the input reads as it did. -/
def fnExactWriterOfUptoRow : OpenClaim := { program := "ytpiaeinfneoioaa", sum := "5b8a54f45b7bd24f7d05db3af134998517e6cead3077a62e5c96e16863159442", func := "loop.example/g01924/laws.FnExactWriterOf", spec := "fnExactWriterOf", unfollowed := true, recurses := true, apart := false, narrowed := true }
def FnExactWriterOfUptoSaid : Prop := fnExactWriterOfUptoRow.holds Try.pinned (OpenSpec.upto fnExactWriterOfSpec)

/-- 'laws.FnExactMergePrograms', WHERE WHAT IT READS IS OF BULK AT MOST 1048576: true; the input reads as it did. -/
def fnExactMergeProgramsUptoRow : OpenClaim := { program := "ytpiaeinfneoioaa", sum := "5b8a54f45b7bd24f7d05db3af134998517e6cead3077a62e5c96e16863159442", func := "loop.example/g01924/laws.FnExactMergePrograms", spec := "fnExactMergePrograms", apart := false, narrowed := true }
def FnExactMergeProgramsUptoSaid : Prop := fnExactMergeProgramsUptoRow.holds Try.pinned (OpenSpec.upto fnExactMergeProgramsSpec)

/-- 'laws.FnExactEqualHistories', WHERE WHAT IT READS IS OF BULK AT MOST 1048576: true; the input reads as it did. -/
def fnExactEqualHistoriesUptoRow : OpenClaim := { program := "ytpiaeinfneoioaa", sum := "5b8a54f45b7bd24f7d05db3af134998517e6cead3077a62e5c96e16863159442", func := "loop.example/g01924/laws.FnExactEqualHistories", spec := "fnExactEqualHistories", unfollowed := true, recurses := true, apart := false, narrowed := true }
def FnExactEqualHistoriesUptoSaid : Prop := fnExactEqualHistoriesUptoRow.holds Try.pinned (OpenSpec.upto fnExactEqualHistoriesSpec)

/-- 'laws.FnMerges', WHERE WHAT IT READS IS OF BULK AT MOST 1048576: true; the input reads as it did. -/
def fnMergesUptoRow : OpenClaim := { program := "ytpiaeinfneoioaa", sum := "5b8a54f45b7bd24f7d05db3af134998517e6cead3077a62e5c96e16863159442", func := "loop.example/g01924/laws.FnMerges", spec := "fnMerges", apart := false, narrowed := true }
def FnMergesUptoSaid : Prop := fnMergesUptoRow.holds Try.pinned (OpenSpec.upto fnMergesSpec)

/-- 'laws.FnExactCommittedStamp', WHERE WHAT IT READS IS OF BULK AT MOST 1048576: true; the input reads as it did. -/
def fnExactCommittedStampUptoRow : OpenClaim := { program := "ytpiaeinfneoioaa", sum := "5b8a54f45b7bd24f7d05db3af134998517e6cead3077a62e5c96e16863159442", func := "loop.example/g01924/laws.FnExactCommittedStamp", spec := "fnExactCommittedStamp", apart := false, narrowed := true }
def FnExactCommittedStampUptoSaid : Prop := fnExactCommittedStampUptoRow.holds Try.pinned (OpenSpec.upto fnExactCommittedStampSpec)

/-- 'laws.FnPhantoms', WHERE WHAT IT READS IS OF BULK AT MOST 1048576: true; the input reads as it did. -/
def fnPhantomsUptoRow : OpenClaim := { program := "ytpiaeinfneoioaa", sum := "5b8a54f45b7bd24f7d05db3af134998517e6cead3077a62e5c96e16863159442", func := "loop.example/g01924/laws.FnPhantoms", spec := "fnPhantoms", unfollowed := true, recurses := true, apart := false, narrowed := true }
def FnPhantomsUptoSaid : Prop := fnPhantomsUptoRow.holds Try.pinned (OpenSpec.upto fnPhantomsSpec)

/-- 'laws.FnLocks', WHERE WHAT IT READS IS OF BULK AT MOST 1048576: true; the input reads as it did. -/
def fnLocksUptoRow : OpenClaim := { program := "ytpiaeinfneoioaa", sum := "5b8a54f45b7bd24f7d05db3af134998517e6cead3077a62e5c96e16863159442", func := "loop.example/g01924/laws.FnLocks", spec := "fnLocks", inPlace := ["slices.overlaps[loop.example/g01924/impl.Lock]"], unfollowed := true, recurses := true, apart := false, narrowed := true }
def FnLocksUptoSaid : Prop := fnLocksUptoRow.holds Try.pinned (OpenSpec.upto fnLocksSpec)

/-- 'laws.FnExactIndexOf', WHERE WHAT IT READS IS OF BULK AT MOST 1048576: true; the input reads as it did. -/
def fnExactIndexOfUptoRow : OpenClaim := { program := "ytpiaeinfneoioaa", sum := "5b8a54f45b7bd24f7d05db3af134998517e6cead3077a62e5c96e16863159442", func := "loop.example/g01924/laws.FnExactIndexOf", spec := "fnExactIndexOf", unfollowed := true, recurses := true, apart := false, narrowed := true }
def FnExactIndexOfUptoSaid : Prop := fnExactIndexOfUptoRow.holds Try.pinned (OpenSpec.upto fnExactIndexOfSpec)

/-- 'laws.FnExactWouldDeadlock', WHERE WHAT IT READS IS OF BULK AT MOST 1048576: true; the input reads as it did. -/
def fnExactWouldDeadlockUptoRow : OpenClaim := { program := "ytpiaeinfneoioaa", sum := "5b8a54f45b7bd24f7d05db3af134998517e6cead3077a62e5c96e16863159442", func := "loop.example/g01924/laws.FnExactWouldDeadlock", spec := "fnExactWouldDeadlock", inPlace := ["slices.overlaps[loop.example/g01924/impl.Wait]"], unfollowed := true, recurses := true, apart := false, narrowed := true }
def FnExactWouldDeadlockUptoSaid : Prop := fnExactWouldDeadlockUptoRow.holds Try.pinned (OpenSpec.upto fnExactWouldDeadlockSpec)

/-- 'laws.FnExactIsHistory', WHERE WHAT IT READS IS OF BULK AT MOST 1048576: true; the input reads as it did. -/
def fnExactIsHistoryUptoRow : OpenClaim := { program := "ytpiaeinfneoioaa", sum := "5b8a54f45b7bd24f7d05db3af134998517e6cead3077a62e5c96e16863159442", func := "loop.example/g01924/laws.FnExactIsHistory", spec := "fnExactIsHistory", unfollowed := true, recurses := true, apart := false, narrowed := true }
def FnExactIsHistoryUptoSaid : Prop := fnExactIsHistoryUptoRow.holds Try.pinned (OpenSpec.upto fnExactIsHistorySpec)

/-- 'laws.FnIndexes', WHERE WHAT IT READS IS OF BULK AT MOST 1048576: true; the input reads as it did. -/
def fnIndexesUptoRow : OpenClaim := { program := "ytpiaeinfneoioaa", sum := "5b8a54f45b7bd24f7d05db3af134998517e6cead3077a62e5c96e16863159442", func := "loop.example/g01924/laws.FnIndexes", spec := "fnIndexes", inPlace := ["slices.overlaps[loop.example/g01924/impl.IndexNode]"], unfollowed := true, recurses := true, apart := false, narrowed := true }
def FnIndexesUptoSaid : Prop := fnIndexesUptoRow.holds Try.pinned (OpenSpec.upto fnIndexesSpec)

end Rows
end Go.Proofs.Ytpiaeinfneoioaa
