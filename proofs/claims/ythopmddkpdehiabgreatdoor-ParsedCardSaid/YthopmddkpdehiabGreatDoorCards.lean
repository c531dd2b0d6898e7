/-
  DERIVED. GIVEN WITH THE SEED: THE CARDS: each row of YthopmddkpdehiabGreatDoorRows.lean that lists a variable, with what it lists TIED to the program's text (the seventh form; the later family's looks); each row that meets fmt, with fmt's text TOLD by the authors' own Lean function (tested against real Go, not proved from fmt's source: count such statements apart). THE CARD IS WHAT COUNTS. Prove the row's statement (the work); the ties are given (YthopmddkpdehiabGreatDoorTie.lean); close each card by the builder's one call (the guide's Derived/Test/ToyasCard.lean, 'card_holds'). Laid BY PROGRAM, IN A SANDBOX (cutbox-door.mjs). By AI agents, Wed Nov 11 2026. No macro, syntax, notation, axiom, sorry.
-/
import Derived.Test.YthopmddkpdehiabGreatDoorRows
import GoSem.ClaimSeven
namespace Go.Proofs.YthopmddkpdehiabGreatDoor
namespace Rows

/-- THE TIED CARD OF 'mailsievelaw.Parsed'. -/
def parsedCard : Claim7 := { stood := { row := parsedRow, standIns := [], harness := (true, "d30d2dbc2ce46fac6bac593c0733b9376cf6309d789444a9794083a1c5b1f0df"), looks := true }, kinds := [], alts := [], laidByText := true, laidKinds := [.data, .data, .data, .handle], laidTests := true, laidLooks := .later }
def ParsedCardSaid : Prop := Claim7.holds Tryz.pinned (.plain (OpenSpec.ofChange parsedSpec)) parsedCard

/-- THE TIED CARD OF 'mailsievelaw.Ran'. -/
def ranCard : Claim7 := { stood := { row := ranRow, standIns := [], harness := (true, "d30d2dbc2ce46fac6bac593c0733b9376cf6309d789444a9794083a1c5b1f0df"), looks := true }, kinds := [], alts := [], laidByText := true, laidKinds := [.data, .data, .data, .handle], laidTests := true, laidLooks := .later }
def RanCardSaid : Prop := Claim7.holds Tryz.pinned (.plain (OpenSpec.ofChange ranSpec)) ranCard

/-- THE TIED CARD OF 'mailsievelaw.Coded'. -/
def codedCard : Claim7 := { stood := { row := codedRow, standIns := [], harness := (true, "d30d2dbc2ce46fac6bac593c0733b9376cf6309d789444a9794083a1c5b1f0df"), looks := true }, kinds := [], alts := [], laidByText := true, laidKinds := [.data, .data, .data, .handle], laidTests := true, laidLooks := .later }
def CodedCardSaid : Prop := Claim7.holds Tryz.pinned (.plain (OpenSpec.ofChange codedSpec)) codedCard

/-- THE TIED CARD OF 'mailsievelaw.Executed'. -/
def executedCard : Claim7 := { stood := { row := executedRow, standIns := [], harness := (true, "d30d2dbc2ce46fac6bac593c0733b9376cf6309d789444a9794083a1c5b1f0df"), looks := true }, kinds := [], alts := [], laidByText := true, laidKinds := [.data, .data, .data, .handle], laidTests := true, laidLooks := .later }
def ExecutedCardSaid : Prop := Claim7.holds Tryz.pinned (.plain (OpenSpec.ofChange executedSpec)) executedCard

/-- THE SECOND FORM's CARD OF 'mailsievelaw.Parsed'. -/
def parsedUptoCard : Claim7 := { stood := { row := parsedUptoRow, standIns := [], harness := (true, "d30d2dbc2ce46fac6bac593c0733b9376cf6309d789444a9794083a1c5b1f0df"), looks := true }, kinds := [], alts := [], laidByText := true, laidKinds := [.data, .data, .data, .handle], laidTests := true, laidLooks := .later }
def ParsedUptoCardSaid : Prop := Claim7.holds Tryz.pinned (.plain (OpenSpec.upto parsedSpec)) parsedUptoCard

/-- THE SECOND FORM's CARD OF 'mailsievelaw.Ran'. -/
def ranUptoCard : Claim7 := { stood := { row := ranUptoRow, standIns := [], harness := (true, "d30d2dbc2ce46fac6bac593c0733b9376cf6309d789444a9794083a1c5b1f0df"), looks := true }, kinds := [], alts := [], laidByText := true, laidKinds := [.data, .data, .data, .handle], laidTests := true, laidLooks := .later }
def RanUptoCardSaid : Prop := Claim7.holds Tryz.pinned (.plain (OpenSpec.upto ranSpec)) ranUptoCard

/-- THE SECOND FORM's CARD OF 'mailsievelaw.Coded'. -/
def codedUptoCard : Claim7 := { stood := { row := codedUptoRow, standIns := [], harness := (true, "d30d2dbc2ce46fac6bac593c0733b9376cf6309d789444a9794083a1c5b1f0df"), looks := true }, kinds := [], alts := [], laidByText := true, laidKinds := [.data, .data, .data, .handle], laidTests := true, laidLooks := .later }
def CodedUptoCardSaid : Prop := Claim7.holds Tryz.pinned (.plain (OpenSpec.upto codedSpec)) codedUptoCard

/-- THE SECOND FORM's CARD OF 'mailsievelaw.Executed'. -/
def executedUptoCard : Claim7 := { stood := { row := executedUptoRow, standIns := [], harness := (true, "d30d2dbc2ce46fac6bac593c0733b9376cf6309d789444a9794083a1c5b1f0df"), looks := true }, kinds := [], alts := [], laidByText := true, laidKinds := [.data, .data, .data, .handle], laidTests := true, laidLooks := .later }
def ExecutedUptoCardSaid : Prop := Claim7.holds Tryz.pinned (.plain (OpenSpec.upto executedSpec)) executedUptoCard
end Rows
end Go.Proofs.YthopmddkpdehiabGreatDoor
