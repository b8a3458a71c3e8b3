/-
  No cell of these rows narrows 'for every input' (looked for: loops, veiled, ifaces, maps, wideKeys, modest, calm, conditions, laid).
  DERIVED. THE GIVEN ROWS OF THIS SEAT. 11 by the template 'for every input the law returns true; each argument reads behind the call as it read before'; 0 by the template 'total and deterministic' (their statements: YtakpkmlbklahhaaTotals.lean).
  GIVEN WITH THE SEED: the statements are not yours to turn. If you find one false, say at which input.
  Laid BY PROGRAM, IN A SANDBOX (cutbox-rows.mjs): the forced cells as the released guide's own fill.sh prints them over the translation 539d3b6ad71b464e… (all of the seat's roots in one cut). By AI agents, Wed Nov 11 2026. No macro, syntax, notation, axiom, sorry.
-/
import Derived.Test.YtakpkmlbklahhaaChecked
import GoSem.Claim
import GoSem.ClaimJoined
import GoSem.ClaimMapViews
import Derived.JoinedTies
import Derived.KernelRfl
namespace Go.Proofs.Ytakpkmlbklahhaa
/- THE CELL 'sum', in the pinned program and in every row, IS THE sha256 OF THE DUMP (.gsa) THAT YtakpkmlbklahhaaProg.lean LOADS. Nothing in Lean hashes anything: it is a label: what it is worth is what the hold of that sum in a sandbox is worth. -/
noncomputable def Try.pinned : Pinned := { name := "ytakpkmlbklahhaa", sum := "539d3b6ad71b464ebfa2668f6e5bd041a5a3d58472589776b34e20582ec2f051", checked := Try.checked }
namespace Rows
def none {H : Type} : Left H := { results := [], args := [] }

/-- 'laws.FnWaits': WHATEVER THE INPUT: true; the input reads as it did. -/
def fnWaitsSpec : ChangeSpec := { name := "fnWaits", fn := fun _ => fun
  | [d] => { results := [.lit (.bool true)], args := [d] }
  | _ => none }
def fnWaitsRow : OpenClaim := { program := "ytakpkmlbklahhaa", sum := "539d3b6ad71b464ebfa2668f6e5bd041a5a3d58472589776b34e20582ec2f051", func := "loop.example/g01924/laws.FnWaits", spec := "fnWaits", inPlace := ["slices.overlaps[loop.example/g01924/impl.Wait]"], unfollowed := true, recurses := true, apart := false }
def FnWaitsSaid : Prop := fnWaitsRow.holds Try.pinned (OpenSpec.ofChange fnWaitsSpec)

/-- ITS FALSE NEIGHBOUR: 'it returns false'. Refute it at one input. -/
def fnWaitsWrong : ChangeSpec := { name := "fnWaits", fn := fun _ => fun
  | [d] => { results := [.lit (.bool false)], args := [d] }
  | _ => none }
def FnWaitsWrongFalsely : Prop := fnWaitsRow.holds Try.pinned (OpenSpec.ofChange fnWaitsWrong)

/-- 'laws.FnExactFindTransaction': WHATEVER THE INPUT: true; the input reads as it did. -/
def fnExactFindTransactionSpec : ChangeSpec := { name := "fnExactFindTransaction", fn := fun _ => fun
  | [d1, d2] => { results := [.lit (.bool true)], args := [d1, d2] }
  | _ => none }
def fnExactFindTransactionRow : OpenClaim := { program := "ytakpkmlbklahhaa", sum := "539d3b6ad71b464ebfa2668f6e5bd041a5a3d58472589776b34e20582ec2f051", func := "loop.example/g01924/laws.FnExactFindTransaction", spec := "fnExactFindTransaction", unfollowed := true, recurses := true, apart := false }
def FnExactFindTransactionSaid : Prop := fnExactFindTransactionRow.holds Try.pinned (OpenSpec.ofChange fnExactFindTransactionSpec)

/-- ITS FALSE NEIGHBOUR: 'it returns false'. Refute it at one input. -/
def fnExactFindTransactionWrong : ChangeSpec := { name := "fnExactFindTransaction", fn := fun _ => fun
  | [d1, d2] => { results := [.lit (.bool false)], args := [d1, d2] }
  | _ => none }
def FnExactFindTransactionWrongFalsely : Prop := fnExactFindTransactionRow.holds Try.pinned (OpenSpec.ofChange fnExactFindTransactionWrong)

/-- 'laws.FnExactCommitCode': WHATEVER THE INPUT: true; the input reads as it did. -/
def fnExactCommitCodeSpec : ChangeSpec := { name := "fnExactCommitCode", fn := fun _ => fun
  | [d1, d2] => { results := [.lit (.bool true)], args := [d1, d2] }
  | _ => none }
def fnExactCommitCodeRow : OpenClaim := { program := "ytakpkmlbklahhaa", sum := "539d3b6ad71b464ebfa2668f6e5bd041a5a3d58472589776b34e20582ec2f051", func := "loop.example/g01924/laws.FnExactCommitCode", spec := "fnExactCommitCode", unfollowed := true, recurses := true, apart := false }
def FnExactCommitCodeSaid : Prop := fnExactCommitCodeRow.holds Try.pinned (OpenSpec.ofChange fnExactCommitCodeSpec)

/-- ITS FALSE NEIGHBOUR: 'it returns false'. Refute it at one input. -/
def fnExactCommitCodeWrong : ChangeSpec := { name := "fnExactCommitCode", fn := fun _ => fun
  | [d1, d2] => { results := [.lit (.bool false)], args := [d1, d2] }
  | _ => none }
def FnExactCommitCodeWrongFalsely : Prop := fnExactCommitCodeRow.holds Try.pinned (OpenSpec.ofChange fnExactCommitCodeWrong)

/-- 'laws.FnExactNewEngine': WHATEVER THE INPUT: true; the input reads as it did. -/
def fnExactNewEngineSpec : ChangeSpec := { name := "fnExactNewEngine", fn := fun _ => fun
  | [d] => { results := [.lit (.bool true)], args := [d] }
  | _ => none }
def fnExactNewEngineRow : OpenClaim := { program := "ytakpkmlbklahhaa", sum := "539d3b6ad71b464ebfa2668f6e5bd041a5a3d58472589776b34e20582ec2f051", func := "loop.example/g01924/laws.FnExactNewEngine", spec := "fnExactNewEngine", apart := false }
def FnExactNewEngineSaid : Prop := fnExactNewEngineRow.holds Try.pinned (OpenSpec.ofChange fnExactNewEngineSpec)

/-- ITS FALSE NEIGHBOUR: 'it returns false'. Refute it at one input. -/
def fnExactNewEngineWrong : ChangeSpec := { name := "fnExactNewEngine", fn := fun _ => fun
  | [d] => { results := [.lit (.bool false)], args := [d] }
  | _ => none }
def FnExactNewEngineWrongFalsely : Prop := fnExactNewEngineRow.holds Try.pinned (OpenSpec.ofChange fnExactNewEngineWrong)

/-- 'laws.FnExactChooseVersion': WHATEVER THE INPUT: true; the input reads as it did. -/
def fnExactChooseVersionSpec : ChangeSpec := { name := "fnExactChooseVersion", fn := fun _ => fun
  | [d1, d2, d3] => { results := [.lit (.bool true)], args := [d1, d2, d3] }
  | _ => none }
def fnExactChooseVersionRow : OpenClaim := { program := "ytakpkmlbklahhaa", sum := "539d3b6ad71b464ebfa2668f6e5bd041a5a3d58472589776b34e20582ec2f051", func := "loop.example/g01924/laws.FnExactChooseVersion", spec := "fnExactChooseVersion", unfollowed := true, recurses := true, apart := false }
def FnExactChooseVersionSaid : Prop := fnExactChooseVersionRow.holds Try.pinned (OpenSpec.ofChange fnExactChooseVersionSpec)

/-- ITS FALSE NEIGHBOUR: 'it returns false'. Refute it at one input. -/
def fnExactChooseVersionWrong : ChangeSpec := { name := "fnExactChooseVersion", fn := fun _ => fun
  | [d1, d2, d3] => { results := [.lit (.bool false)], args := [d1, d2, d3] }
  | _ => none }
def FnExactChooseVersionWrongFalsely : Prop := fnExactChooseVersionRow.holds Try.pinned (OpenSpec.ofChange fnExactChooseVersionWrong)

/-- 'laws.FnExactEqualEngines': WHATEVER THE INPUT: true; the input reads as it did. -/
def fnExactEqualEnginesSpec : ChangeSpec := { name := "fnExactEqualEngines", fn := fun _ => fun
  | [d1, d2] => { results := [.lit (.bool true)], args := [d1, d2] }
  | _ => none }
def fnExactEqualEnginesRow : OpenClaim := { program := "ytakpkmlbklahhaa", sum := "539d3b6ad71b464ebfa2668f6e5bd041a5a3d58472589776b34e20582ec2f051", func := "loop.example/g01924/laws.FnExactEqualEngines", spec := "fnExactEqualEngines", unfollowed := true, recurses := true, apart := false }
def FnExactEqualEnginesSaid : Prop := fnExactEqualEnginesRow.holds Try.pinned (OpenSpec.ofChange fnExactEqualEnginesSpec)

/-- ITS FALSE NEIGHBOUR: 'it returns false'. Refute it at one input. -/
def fnExactEqualEnginesWrong : ChangeSpec := { name := "fnExactEqualEngines", fn := fun _ => fun
  | [d1, d2] => { results := [.lit (.bool false)], args := [d1, d2] }
  | _ => none }
def FnExactEqualEnginesWrongFalsely : Prop := fnExactEqualEnginesRow.holds Try.pinned (OpenSpec.ofChange fnExactEqualEnginesWrong)

/-- 'laws.FnSchemes': WHATEVER THE INPUT: true; the input reads as it did. -/
def fnSchemesSpec : ChangeSpec := { name := "fnSchemes", fn := fun _ => fun
  | [d] => { results := [.lit (.bool true)], args := [d] }
  | _ => none }
def fnSchemesRow : OpenClaim := { program := "ytakpkmlbklahhaa", sum := "539d3b6ad71b464ebfa2668f6e5bd041a5a3d58472589776b34e20582ec2f051", func := "loop.example/g01924/laws.FnSchemes", spec := "fnSchemes", unfollowed := true, recurses := true, apart := false }
def FnSchemesSaid : Prop := fnSchemesRow.holds Try.pinned (OpenSpec.ofChange fnSchemesSpec)

/-- ITS FALSE NEIGHBOUR: 'it returns false'. Refute it at one input. -/
def fnSchemesWrong : ChangeSpec := { name := "fnSchemes", fn := fun _ => fun
  | [d] => { results := [.lit (.bool false)], args := [d] }
  | _ => none }
def FnSchemesWrongFalsely : Prop := fnSchemesRow.holds Try.pinned (OpenSpec.ofChange fnSchemesWrong)

/-- 'laws.FnExactWriteCode': WHATEVER THE INPUT: true; the input reads as it did. -/
def fnExactWriteCodeSpec : ChangeSpec := { name := "fnExactWriteCode", fn := fun _ => fun
  | [d1, d2, d3, d4] => { results := [.lit (.bool true)], args := [d1, d2, d3, d4] }
  | _ => none }
def fnExactWriteCodeRow : OpenClaim := { program := "ytakpkmlbklahhaa", sum := "539d3b6ad71b464ebfa2668f6e5bd041a5a3d58472589776b34e20582ec2f051", func := "loop.example/g01924/laws.FnExactWriteCode", spec := "fnExactWriteCode", unfollowed := true, recurses := true, apart := false }
def FnExactWriteCodeSaid : Prop := fnExactWriteCodeRow.holds Try.pinned (OpenSpec.ofChange fnExactWriteCodeSpec)

/-- ITS FALSE NEIGHBOUR: 'it returns false'. Refute it at one input. -/
def fnExactWriteCodeWrong : ChangeSpec := { name := "fnExactWriteCode", fn := fun _ => fun
  | [d1, d2, d3, d4] => { results := [.lit (.bool false)], args := [d1, d2, d3, d4] }
  | _ => none }
def FnExactWriteCodeWrongFalsely : Prop := fnExactWriteCodeRow.holds Try.pinned (OpenSpec.ofChange fnExactWriteCodeWrong)

/-- 'laws.FnExactInstalledVersions': WHATEVER THE INPUT: true; the input reads as it did. -/
def fnExactInstalledVersionsSpec : ChangeSpec := { name := "fnExactInstalledVersions", fn := fun _ => fun
  | [d1, d2] => { results := [.lit (.bool true)], args := [d1, d2] }
  | _ => none }
def fnExactInstalledVersionsRow : OpenClaim := { program := "ytakpkmlbklahhaa", sum := "539d3b6ad71b464ebfa2668f6e5bd041a5a3d58472589776b34e20582ec2f051", func := "loop.example/g01924/laws.FnExactInstalledVersions", spec := "fnExactInstalledVersions", unfollowed := true, recurses := true, apart := false }
def FnExactInstalledVersionsSaid : Prop := fnExactInstalledVersionsRow.holds Try.pinned (OpenSpec.ofChange fnExactInstalledVersionsSpec)

/-- ITS FALSE NEIGHBOUR: 'it returns false'. Refute it at one input. -/
def fnExactInstalledVersionsWrong : ChangeSpec := { name := "fnExactInstalledVersions", fn := fun _ => fun
  | [d1, d2] => { results := [.lit (.bool false)], args := [d1, d2] }
  | _ => none }
def FnExactInstalledVersionsWrongFalsely : Prop := fnExactInstalledVersionsRow.holds Try.pinned (OpenSpec.ofChange fnExactInstalledVersionsWrong)

/-- 'laws.FnExactTransactionIDs': WHATEVER THE INPUT: true; the input reads as it did. -/
def fnExactTransactionIDsSpec : ChangeSpec := { name := "fnExactTransactionIDs", fn := fun _ => fun
  | [d1, d2] => { results := [.lit (.bool true)], args := [d1, d2] }
  | _ => none }
def fnExactTransactionIDsRow : OpenClaim := { program := "ytakpkmlbklahhaa", sum := "539d3b6ad71b464ebfa2668f6e5bd041a5a3d58472589776b34e20582ec2f051", func := "loop.example/g01924/laws.FnExactTransactionIDs", spec := "fnExactTransactionIDs", apart := false }
def FnExactTransactionIDsSaid : Prop := fnExactTransactionIDsRow.holds Try.pinned (OpenSpec.ofChange fnExactTransactionIDsSpec)

/-- ITS FALSE NEIGHBOUR: 'it returns false'. Refute it at one input. -/
def fnExactTransactionIDsWrong : ChangeSpec := { name := "fnExactTransactionIDs", fn := fun _ => fun
  | [d1, d2] => { results := [.lit (.bool false)], args := [d1, d2] }
  | _ => none }
def FnExactTransactionIDsWrongFalsely : Prop := fnExactTransactionIDsRow.holds Try.pinned (OpenSpec.ofChange fnExactTransactionIDsWrong)

/-- 'laws.FnExactIsValidEngine': WHATEVER THE INPUT: true; the input reads as it did. -/
def fnExactIsValidEngineSpec : ChangeSpec := { name := "fnExactIsValidEngine", fn := fun _ => fun
  | [d] => { results := [.lit (.bool true)], args := [d] }
  | _ => none }
def fnExactIsValidEngineRow : OpenClaim := { program := "ytakpkmlbklahhaa", sum := "539d3b6ad71b464ebfa2668f6e5bd041a5a3d58472589776b34e20582ec2f051", func := "loop.example/g01924/laws.FnExactIsValidEngine", spec := "fnExactIsValidEngine", unfollowed := true, recurses := true, apart := false }
def FnExactIsValidEngineSaid : Prop := fnExactIsValidEngineRow.holds Try.pinned (OpenSpec.ofChange fnExactIsValidEngineSpec)

/-- ITS FALSE NEIGHBOUR: 'it returns false'. Refute it at one input. -/
def fnExactIsValidEngineWrong : ChangeSpec := { name := "fnExactIsValidEngine", fn := fun _ => fun
  | [d] => { results := [.lit (.bool false)], args := [d] }
  | _ => none }
def FnExactIsValidEngineWrongFalsely : Prop := fnExactIsValidEngineRow.holds Try.pinned (OpenSpec.ofChange fnExactIsValidEngineWrong)

/- THE SECOND FORM. 'bulk': how many values and letters a reading holds, each counted each time it is reached (what is shared counts as often as it is met; a slice's spare places count too). A statement '..UptoSaid' is the law's where the arguments, and the package variables that the reading takes, are together of bulk at most 1048576: NARROWER than '..Said'. Prove '..Said' where nothing that the law and all that it calls make is longer than what came in: it says more and counts as full. Else prove '..UptoSaid'. A law counts once. -/
mutual
def uptoBulk {H : Type} : DataW H → Nat
  | .lit (.string bytes) => bytes.length + 1
  | .lit _ => 1
  | .nil => 1
  | .ptr d => uptoBulk d + 1
  | .slice elems spare => uptoBulkAll elems + uptoBulkAll spare + 1
  | .agg parts => uptoBulkAll parts + 1
  | .iface _ d => uptoBulk d + 1
  | .map entries => uptoBulkEntries entries + 1
  | .held _ => 1
def uptoBulkAll {H : Type} : List (DataW H) → Nat
  | [] => 0
  | d :: r => uptoBulk d + uptoBulkAll r
def uptoBulkEntries {H : Type} : List (Lit × DataW H) → Nat
  | [] => 0
  | x :: r => uptoBulkEntry x + uptoBulkEntries r
def uptoBulkEntry {H : Type} : Lit × DataW H → Nat
  | (.string bytes, d) => bytes.length + uptoBulk d + 1
  | (_, d) => uptoBulk d + 1
 end
def uptoSmall : (H : Type) → List (DataW H) → Bool := fun _ ds => decide (uptoBulkAll ds ≤ 1048576)
def OpenSpec.upto (s : _root_.Go.ChangeSpec) : _root_.Go.OpenSpec := { _root_.Go.OpenSpec.ofChange s with cond := some uptoSmall }

/-- 'laws.FnWaits', WHERE WHAT IT READS IS OF BULK AT MOST 1048576: true; the input reads as it did. -/
def fnWaitsUptoRow : OpenClaim := { program := "ytakpkmlbklahhaa", sum := "539d3b6ad71b464ebfa2668f6e5bd041a5a3d58472589776b34e20582ec2f051", func := "loop.example/g01924/laws.FnWaits", spec := "fnWaits", inPlace := ["slices.overlaps[loop.example/g01924/impl.Wait]"], unfollowed := true, recurses := true, apart := false, narrowed := true }
def FnWaitsUptoSaid : Prop := fnWaitsUptoRow.holds Try.pinned (OpenSpec.upto fnWaitsSpec)

/-- 'laws.FnExactFindTransaction', WHERE WHAT IT READS IS OF BULK AT MOST 1048576: true; the input reads as it did. -/
def fnExactFindTransactionUptoRow : OpenClaim := { program := "ytakpkmlbklahhaa", sum := "539d3b6ad71b464ebfa2668f6e5bd041a5a3d58472589776b34e20582ec2f051", func := "loop.example/g01924/laws.FnExactFindTransaction", spec := "fnExactFindTransaction", unfollowed := true, recurses := true, apart := false, narrowed := true }
def FnExactFindTransactionUptoSaid : Prop := fnExactFindTransactionUptoRow.holds Try.pinned (OpenSpec.upto fnExactFindTransactionSpec)

/-- 'laws.FnExactCommitCode', WHERE WHAT IT READS IS OF BULK AT MOST 1048576: true; the input reads as it did. -/
def fnExactCommitCodeUptoRow : OpenClaim := { program := "ytakpkmlbklahhaa", sum := "539d3b6ad71b464ebfa2668f6e5bd041a5a3d58472589776b34e20582ec2f051", func := "loop.example/g01924/laws.FnExactCommitCode", spec := "fnExactCommitCode", unfollowed := true, recurses := true, apart := false, narrowed := true }
def FnExactCommitCodeUptoSaid : Prop := fnExactCommitCodeUptoRow.holds Try.pinned (OpenSpec.upto fnExactCommitCodeSpec)

/-- 'laws.FnExactNewEngine', WHERE WHAT IT READS IS OF BULK AT MOST 1048576: true; the input reads as it did. -/
def fnExactNewEngineUptoRow : OpenClaim := { program := "ytakpkmlbklahhaa", sum := "539d3b6ad71b464ebfa2668f6e5bd041a5a3d58472589776b34e20582ec2f051", func := "loop.example/g01924/laws.FnExactNewEngine", spec := "fnExactNewEngine", apart := false, narrowed := true }
def FnExactNewEngineUptoSaid : Prop := fnExactNewEngineUptoRow.holds Try.pinned (OpenSpec.upto fnExactNewEngineSpec)

/-- 'laws.FnExactChooseVersion', WHERE WHAT IT READS IS OF BULK AT MOST 1048576: true; the input reads as it did. -/
def fnExactChooseVersionUptoRow : OpenClaim := { program := "ytakpkmlbklahhaa", sum := "539d3b6ad71b464ebfa2668f6e5bd041a5a3d58472589776b34e20582ec2f051", func := "loop.example/g01924/laws.FnExactChooseVersion", spec := "fnExactChooseVersion", unfollowed := true, recurses := true, apart := false, narrowed := true }
def FnExactChooseVersionUptoSaid : Prop := fnExactChooseVersionUptoRow.holds Try.pinned (OpenSpec.upto fnExactChooseVersionSpec)

/-- 'laws.FnExactEqualEngines', WHERE WHAT IT READS IS OF BULK AT MOST 1048576: true; the input reads as it did. -/
def fnExactEqualEnginesUptoRow : OpenClaim := { program := "ytakpkmlbklahhaa", sum := "539d3b6ad71b464ebfa2668f6e5bd041a5a3d58472589776b34e20582ec2f051", func := "loop.example/g01924/laws.FnExactEqualEngines", spec := "fnExactEqualEngines", unfollowed := true, recurses := true, apart := false, narrowed := true }
def FnExactEqualEnginesUptoSaid : Prop := fnExactEqualEnginesUptoRow.holds Try.pinned (OpenSpec.upto fnExactEqualEnginesSpec)

/-- 'laws.FnSchemes', WHERE WHAT IT READS IS OF BULK AT MOST 1048576: true; the input reads as it did. -/
def fnSchemesUptoRow : OpenClaim := { program := "ytakpkmlbklahhaa", sum := "539d3b6ad71b464ebfa2668f6e5bd041a5a3d58472589776b34e20582ec2f051", func := "loop.example/g01924/laws.FnSchemes", spec := "fnSchemes", unfollowed := true, recurses := true, apart := false, narrowed := true }
def FnSchemesUptoSaid : Prop := fnSchemesUptoRow.holds Try.pinned (OpenSpec.upto fnSchemesSpec)

/-- 'laws.FnExactWriteCode', WHERE WHAT IT READS IS OF BULK AT MOST 1048576: true; the input reads as it did. -/
def fnExactWriteCodeUptoRow : OpenClaim := { program := "ytakpkmlbklahhaa", sum := "539d3b6ad71b464ebfa2668f6e5bd041a5a3d58472589776b34e20582ec2f051", func := "loop.example/g01924/laws.FnExactWriteCode", spec := "fnExactWriteCode", unfollowed := true, recurses := true, apart := false, narrowed := true }
def FnExactWriteCodeUptoSaid : Prop := fnExactWriteCodeUptoRow.holds Try.pinned (OpenSpec.upto fnExactWriteCodeSpec)

/-- 'laws.FnExactInstalledVersions', WHERE WHAT IT READS IS OF BULK AT MOST 1048576: true; the input reads as it did. -/
def fnExactInstalledVersionsUptoRow : OpenClaim := { program := "ytakpkmlbklahhaa", sum := "539d3b6ad71b464ebfa2668f6e5bd041a5a3d58472589776b34e20582ec2f051", func := "loop.example/g01924/laws.FnExactInstalledVersions", spec := "fnExactInstalledVersions", unfollowed := true, recurses := true, apart := false, narrowed := true }
def FnExactInstalledVersionsUptoSaid : Prop := fnExactInstalledVersionsUptoRow.holds Try.pinned (OpenSpec.upto fnExactInstalledVersionsSpec)

/-- 'laws.FnExactTransactionIDs', WHERE WHAT IT READS IS OF BULK AT MOST 1048576: true; the input reads as it did. -/
def fnExactTransactionIDsUptoRow : OpenClaim := { program := "ytakpkmlbklahhaa", sum := "539d3b6ad71b464ebfa2668f6e5bd041a5a3d58472589776b34e20582ec2f051", func := "loop.example/g01924/laws.FnExactTransactionIDs", spec := "fnExactTransactionIDs", apart := false, narrowed := true }
def FnExactTransactionIDsUptoSaid : Prop := fnExactTransactionIDsUptoRow.holds Try.pinned (OpenSpec.upto fnExactTransactionIDsSpec)

/-- 'laws.FnExactIsValidEngine', WHERE WHAT IT READS IS OF BULK AT MOST 1048576: true; the input reads as it did. -/
def fnExactIsValidEngineUptoRow : OpenClaim := { program := "ytakpkmlbklahhaa", sum := "539d3b6ad71b464ebfa2668f6e5bd041a5a3d58472589776b34e20582ec2f051", func := "loop.example/g01924/laws.FnExactIsValidEngine", spec := "fnExactIsValidEngine", unfollowed := true, recurses := true, apart := false, narrowed := true }
def FnExactIsValidEngineUptoSaid : Prop := fnExactIsValidEngineUptoRow.holds Try.pinned (OpenSpec.upto fnExactIsValidEngineSpec)

end Rows
end Go.Proofs.Ytakpkmlbklahhaa
