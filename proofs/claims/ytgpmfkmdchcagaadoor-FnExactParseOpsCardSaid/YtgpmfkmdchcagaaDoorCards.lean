/-
  DERIVED. GIVEN WITH THE SEED: THE CARDS: each row of YtgpmfkmdchcagaaDoorRows.lean that lists a variable, with what it lists TIED to the program's text (the seventh form; the later family's looks); each row that meets fmt, with fmt's text TOLD by the authors' own Lean function (tested against real Go, not proved from fmt's source: count such statements apart). THE CARD IS WHAT COUNTS. Prove the row's statement (the work); the ties are given (YtgpmfkmdchcagaaDoorTie.lean); close each card by the builder's one call (the guide's Derived/Test/ToyasCard.lean, 'card_holds'). Laid BY PROGRAM, IN A SANDBOX (cutbox-door.mjs). By AI agents, Wed Nov 11 2026. No macro, syntax, notation, axiom, sorry.
-/
import Derived.Test.YtgpmfkmdchcagaaDoorRows
import GoSem.ClaimSeven
namespace Go.Proofs.YtgpmfkmdchcagaaDoor
namespace Rows

/-- THE TIED CARD OF 'laws.FnExactParseOps'. -/
def fnExactParseOpsCard : Claim7 := { stood := { row := fnExactParseOpsRow, standIns := [], harness := (true, "57f06800d0054b2a365e033e6c2184b357c637de17719226465ec18d595089fe"), looks := true }, kinds := [], alts := [], laidByText := true, laidKinds := [.data, .data, .data, .data, .sentinel, .sentinel, .pinned], laidTests := true, laidLooks := .later }
def FnExactParseOpsCardSaid : Prop := Claim7.holds Tryd.pinned (.plain (OpenSpec.ofChange fnExactParseOpsSpec)) fnExactParseOpsCard

/-- THE TIED CARD OF 'laws.FnExactFormatHistory'. -/
def fnExactFormatHistoryCard : Claim7 := { stood := { row := fnExactFormatHistoryRow, standIns := [], harness := (true, "57f06800d0054b2a365e033e6c2184b357c637de17719226465ec18d595089fe"), looks := true }, kinds := [], alts := [], laidByText := true, laidKinds := [.data, .data, .data], laidTests := true, laidLooks := .later }
def FnExactFormatHistoryCardSaid : Prop := Claim7.holds Tryd.pinned (.plain (OpenSpec.ofChange fnExactFormatHistorySpec)) fnExactFormatHistoryCard

/-- THE TIED CARD OF 'laws.FnExactParseOp'. -/
def fnExactParseOpCard : Claim7 := { stood := { row := fnExactParseOpRow, standIns := [], harness := (true, "57f06800d0054b2a365e033e6c2184b357c637de17719226465ec18d595089fe"), looks := true }, kinds := [], alts := [], laidByText := true, laidKinds := [.data, .data, .data, .data, .sentinel, .sentinel, .pinned], laidTests := true, laidLooks := .later }
def FnExactParseOpCardSaid : Prop := Claim7.holds Tryd.pinned (.plain (OpenSpec.ofChange fnExactParseOpSpec)) fnExactParseOpCard

/-- THE SECOND FORM's CARD OF 'laws.FnExactParseOps'. -/
def fnExactParseOpsUptoCard : Claim7 := { stood := { row := fnExactParseOpsUptoRow, standIns := [], harness := (true, "57f06800d0054b2a365e033e6c2184b357c637de17719226465ec18d595089fe"), looks := true }, kinds := [], alts := [], laidByText := true, laidKinds := [.data, .data, .data, .data, .sentinel, .sentinel, .pinned], laidTests := true, laidLooks := .later }
def FnExactParseOpsUptoCardSaid : Prop := Claim7.holds Tryd.pinned (.plain (OpenSpec.upto fnExactParseOpsSpec)) fnExactParseOpsUptoCard

/-- THE SECOND FORM's CARD OF 'laws.FnExactFormatHistory'. -/
def fnExactFormatHistoryUptoCard : Claim7 := { stood := { row := fnExactFormatHistoryUptoRow, standIns := [], harness := (true, "57f06800d0054b2a365e033e6c2184b357c637de17719226465ec18d595089fe"), looks := true }, kinds := [], alts := [], laidByText := true, laidKinds := [.data, .data, .data], laidTests := true, laidLooks := .later }
def FnExactFormatHistoryUptoCardSaid : Prop := Claim7.holds Tryd.pinned (.plain (OpenSpec.upto fnExactFormatHistorySpec)) fnExactFormatHistoryUptoCard

/-- THE SECOND FORM's CARD OF 'laws.FnExactParseOp'. -/
def fnExactParseOpUptoCard : Claim7 := { stood := { row := fnExactParseOpUptoRow, standIns := [], harness := (true, "57f06800d0054b2a365e033e6c2184b357c637de17719226465ec18d595089fe"), looks := true }, kinds := [], alts := [], laidByText := true, laidKinds := [.data, .data, .data, .data, .sentinel, .sentinel, .pinned], laidTests := true, laidLooks := .later }
def FnExactParseOpUptoCardSaid : Prop := Claim7.holds Tryd.pinned (.plain (OpenSpec.upto fnExactParseOpSpec)) fnExactParseOpUptoCard
end Rows
end Go.Proofs.YtgpmfkmdchcagaaDoor
