/-
  DERIVED. GIVEN WITH THE SEED: THE CARDS: each row of YtdfbmaiboadodaaGreatDoorRows.lean that lists a variable, with what it lists TIED to the program's text (the seventh form; the later family's looks); each row that meets fmt, with fmt's text TOLD by the authors' own Lean function (tested against real Go, not proved from fmt's source: count such statements apart). THE CARD IS WHAT COUNTS. Prove the row's statement (the work); the ties are given (YtdfbmaiboadodaaGreatDoorTie.lean); close each card by the builder's one call (the guide's Derived/Test/ToyasCard.lean, 'card_holds'). Laid BY PROGRAM, IN A SANDBOX (cutbox-door.mjs). By AI agents, Wed Nov 11 2026. No macro, syntax, notation, axiom, sorry.
-/
import Derived.Test.YtdfbmaiboadodaaGreatDoorRows
import GoSem.ClaimSeven
namespace Go.Proofs.YtdfbmaiboadodaaGreatDoor
namespace Rows

/-- THE TIED CARD OF 'laws.FnExactParseHistory'. -/
def fnExactParseHistoryCard : Claim7 := { stood := { row := fnExactParseHistoryRow, standIns := [], harness := (true, "b2ca01df0b38585f819c3e130e2a3643c44a7c6440550e4ea6d86f0148a778f8"), looks := true }, kinds := [], alts := [], laidByText := true, laidKinds := [.data, .data, .data, .data, .sentinel, .sentinel, .pinned], laidTests := true, laidLooks := .later }
def FnExactParseHistoryCardSaid : Prop := Claim7.holds Tryz.pinned (.plain (OpenSpec.ofChange fnExactParseHistorySpec)) fnExactParseHistoryCard

/-- THE SECOND FORM's CARD OF 'laws.FnExactParseHistory'. -/
def fnExactParseHistoryUptoCard : Claim7 := { stood := { row := fnExactParseHistoryUptoRow, standIns := [], harness := (true, "b2ca01df0b38585f819c3e130e2a3643c44a7c6440550e4ea6d86f0148a778f8"), looks := true }, kinds := [], alts := [], laidByText := true, laidKinds := [.data, .data, .data, .data, .sentinel, .sentinel, .pinned], laidTests := true, laidLooks := .later }
def FnExactParseHistoryUptoCardSaid : Prop := Claim7.holds Tryz.pinned (.plain (OpenSpec.upto fnExactParseHistorySpec)) fnExactParseHistoryUptoCard
end Rows
end Go.Proofs.YtdfbmaiboadodaaGreatDoor
