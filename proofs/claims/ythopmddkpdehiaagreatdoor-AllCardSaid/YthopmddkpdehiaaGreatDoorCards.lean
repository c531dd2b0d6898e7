/-
  DERIVED. GIVEN WITH THE SEED: THE CARDS: each row of YthopmddkpdehiaaGreatDoorRows.lean that lists a variable, with what it lists TIED to the program's text (the seventh form; the later family's looks); each row that meets fmt, with fmt's text TOLD by the authors' own Lean function (tested against real Go, not proved from fmt's source: count such statements apart). THE CARD IS WHAT COUNTS. Prove the row's statement (the work); the ties are given (YthopmddkpdehiaaGreatDoorTie.lean); close each card by the builder's one call (the guide's Derived/Test/ToyasCard.lean, 'card_holds'). Laid BY PROGRAM, IN A SANDBOX (cutbox-door.mjs). By AI agents, Wed Nov 11 2026. No macro, syntax, notation, axiom, sorry.
-/
import Derived.Test.YthopmddkpdehiaaGreatDoorRows
import GoSem.ClaimSeven
namespace Go.Proofs.YthopmddkpdehiaaGreatDoor
namespace Rows

/-- THE TIED CARD OF 'mailsievekeep.Globbed'. -/
def globbedCard : Claim7 := { stood := { row := globbedRow, standIns := [], harness := (true, "ea7e164c6fe4da811baffb4706d2ea567aa0efc47f88008a5c64f868f8fc8469"), looks := true }, kinds := [], alts := [], laidByText := true, laidKinds := [.data, .data, .data, .handle], laidTests := true, laidLooks := .later }
def GlobbedCardSaid : Prop := Claim7.holds Tryz.pinned (.plain (OpenSpec.ofChange globbedSpec)) globbedCard

/-- THE TIED CARD OF 'mailsievekeep.Agreed'. -/
def agreedCard : Claim7 := { stood := { row := agreedRow, standIns := [], harness := (true, "ea7e164c6fe4da811baffb4706d2ea567aa0efc47f88008a5c64f868f8fc8469"), looks := true }, kinds := [], alts := [], laidByText := true, laidKinds := [.data, .data, .data, .handle], laidTests := true, laidLooks := .later }
def AgreedCardSaid : Prop := Claim7.holds Tryz.pinned (.plain (OpenSpec.ofChange agreedSpec)) agreedCard

/-- THE TIED CARD OF 'mailsievekeep.Round'. -/
def roundCard : Claim7 := { stood := { row := roundRow, standIns := [], harness := (true, "ea7e164c6fe4da811baffb4706d2ea567aa0efc47f88008a5c64f868f8fc8469"), looks := true }, kinds := [], alts := [], laidByText := true, laidKinds := [.handle], laidTests := true, laidLooks := .later }
def RoundCardSaid : Prop := Claim7.holds Tryz.pinned (.plain (OpenSpec.ofChange roundSpec)) roundCard

/-- THE TIED CARD OF 'mailsievelaw.All'. -/
def allCard : Claim7 := { stood := { row := allRow, standIns := [], harness := (true, "ea7e164c6fe4da811baffb4706d2ea567aa0efc47f88008a5c64f868f8fc8469"), looks := true }, kinds := [], alts := [], laidByText := true, laidKinds := [.data, .data, .data, .handle], laidTests := true, laidLooks := .later }
def AllCardSaid : Prop := Claim7.holds Tryz.pinned (.plain (OpenSpec.ofChange allSpec)) allCard

/-- THE TIED CARD OF 'mailsievekeep.Spaced'. -/
def spacedCard : Claim7 := { stood := { row := spacedRow, standIns := [], harness := (true, "ea7e164c6fe4da811baffb4706d2ea567aa0efc47f88008a5c64f868f8fc8469"), looks := true }, kinds := [], alts := [], laidByText := true, laidKinds := [.handle], laidTests := true, laidLooks := .later }
def SpacedCardSaid : Prop := Claim7.holds Tryz.pinned (.plain (OpenSpec.ofChange spacedSpec)) spacedCard

/-- THE TIED CARD OF 'mailsievekeep.Through'. -/
def throughCard : Claim7 := { stood := { row := throughRow, standIns := [], harness := (true, "ea7e164c6fe4da811baffb4706d2ea567aa0efc47f88008a5c64f868f8fc8469"), looks := true }, kinds := [], alts := [], laidByText := true, laidKinds := [.data, .data, .data, .handle, .sentinel, .sentinel], laidTests := true, laidLooks := .later }
def ThroughCardSaid : Prop := Claim7.holds Tryz.pinned (.plain (OpenSpec.ofChange throughSpec)) throughCard

/-- THE TIED CARD OF 'mailsievekeep.Twice'. -/
def twiceCard : Claim7 := { stood := { row := twiceRow, standIns := [], harness := (true, "ea7e164c6fe4da811baffb4706d2ea567aa0efc47f88008a5c64f868f8fc8469"), looks := true }, kinds := [], alts := [], laidByText := true, laidKinds := [.data, .data, .data, .handle, .sentinel, .sentinel], laidTests := true, laidLooks := .later }
def TwiceCardSaid : Prop := Claim7.holds Tryz.pinned (.plain (OpenSpec.ofChange twiceSpec)) twiceCard

/-- THE TIED CARD OF 'mailsievelaw.Delivered'. -/
def deliveredCard : Claim7 := { stood := { row := deliveredRow, standIns := [], harness := (true, "ea7e164c6fe4da811baffb4706d2ea567aa0efc47f88008a5c64f868f8fc8469"), looks := true }, kinds := [], alts := [], laidByText := true, laidKinds := [.data, .data, .data, .handle, .sentinel, .sentinel], laidTests := true, laidLooks := .later }
def DeliveredCardSaid : Prop := Claim7.holds Tryz.pinned (.plain (OpenSpec.ofChange deliveredSpec)) deliveredCard

/-- THE TIED CARD OF 'mailsievelaw.Atomic'. -/
def atomicCard : Claim7 := { stood := { row := atomicRow, standIns := [], harness := (true, "ea7e164c6fe4da811baffb4706d2ea567aa0efc47f88008a5c64f868f8fc8469"), looks := true }, kinds := [], alts := [], laidByText := true, laidKinds := [.data, .data, .data, .handle, .sentinel, .sentinel], laidTests := true, laidLooks := .later }
def AtomicCardSaid : Prop := Claim7.holds Tryz.pinned (.plain (OpenSpec.ofChange atomicSpec)) atomicCard

/-- THE TIED CARD OF 'mailsievekeep.Same'. -/
def sameCard : Claim7 := { stood := { row := sameRow, standIns := [], harness := (true, "ea7e164c6fe4da811baffb4706d2ea567aa0efc47f88008a5c64f868f8fc8469"), looks := true }, kinds := [], alts := [], laidByText := true, laidKinds := [.data, .data, .data, .handle], laidTests := true, laidLooks := .later }
def SameCardSaid : Prop := Claim7.holds Tryz.pinned (.plain (OpenSpec.ofChange sameSpec)) sameCard

/-- THE TIED CARD OF 'mailsievekeep.Turned'. -/
def turnedCard : Claim7 := { stood := { row := turnedRow, standIns := [], harness := (true, "ea7e164c6fe4da811baffb4706d2ea567aa0efc47f88008a5c64f868f8fc8469"), looks := true }, kinds := [], alts := [], laidByText := true, laidKinds := [.data, .data, .data, .handle], laidTests := true, laidLooks := .later }
def TurnedCardSaid : Prop := Claim7.holds Tryz.pinned (.plain (OpenSpec.ofChange turnedSpec)) turnedCard

/-- THE SECOND FORM's CARD OF 'mailsievekeep.Globbed'. -/
def globbedUptoCard : Claim7 := { stood := { row := globbedUptoRow, standIns := [], harness := (true, "ea7e164c6fe4da811baffb4706d2ea567aa0efc47f88008a5c64f868f8fc8469"), looks := true }, kinds := [], alts := [], laidByText := true, laidKinds := [.data, .data, .data, .handle], laidTests := true, laidLooks := .later }
def GlobbedUptoCardSaid : Prop := Claim7.holds Tryz.pinned (.plain (OpenSpec.upto globbedSpec)) globbedUptoCard

/-- THE SECOND FORM's CARD OF 'mailsievekeep.Agreed'. -/
def agreedUptoCard : Claim7 := { stood := { row := agreedUptoRow, standIns := [], harness := (true, "ea7e164c6fe4da811baffb4706d2ea567aa0efc47f88008a5c64f868f8fc8469"), looks := true }, kinds := [], alts := [], laidByText := true, laidKinds := [.data, .data, .data, .handle], laidTests := true, laidLooks := .later }
def AgreedUptoCardSaid : Prop := Claim7.holds Tryz.pinned (.plain (OpenSpec.upto agreedSpec)) agreedUptoCard

/-- THE SECOND FORM's CARD OF 'mailsievekeep.Round'. -/
def roundUptoCard : Claim7 := { stood := { row := roundUptoRow, standIns := [], harness := (true, "ea7e164c6fe4da811baffb4706d2ea567aa0efc47f88008a5c64f868f8fc8469"), looks := true }, kinds := [], alts := [], laidByText := true, laidKinds := [.handle], laidTests := true, laidLooks := .later }
def RoundUptoCardSaid : Prop := Claim7.holds Tryz.pinned (.plain (OpenSpec.upto roundSpec)) roundUptoCard

/-- THE SECOND FORM's CARD OF 'mailsievelaw.All'. -/
def allUptoCard : Claim7 := { stood := { row := allUptoRow, standIns := [], harness := (true, "ea7e164c6fe4da811baffb4706d2ea567aa0efc47f88008a5c64f868f8fc8469"), looks := true }, kinds := [], alts := [], laidByText := true, laidKinds := [.data, .data, .data, .handle], laidTests := true, laidLooks := .later }
def AllUptoCardSaid : Prop := Claim7.holds Tryz.pinned (.plain (OpenSpec.upto allSpec)) allUptoCard

/-- THE SECOND FORM's CARD OF 'mailsievekeep.Spaced'. -/
def spacedUptoCard : Claim7 := { stood := { row := spacedUptoRow, standIns := [], harness := (true, "ea7e164c6fe4da811baffb4706d2ea567aa0efc47f88008a5c64f868f8fc8469"), looks := true }, kinds := [], alts := [], laidByText := true, laidKinds := [.handle], laidTests := true, laidLooks := .later }
def SpacedUptoCardSaid : Prop := Claim7.holds Tryz.pinned (.plain (OpenSpec.upto spacedSpec)) spacedUptoCard

/-- THE SECOND FORM's CARD OF 'mailsievekeep.Through'. -/
def throughUptoCard : Claim7 := { stood := { row := throughUptoRow, standIns := [], harness := (true, "ea7e164c6fe4da811baffb4706d2ea567aa0efc47f88008a5c64f868f8fc8469"), looks := true }, kinds := [], alts := [], laidByText := true, laidKinds := [.data, .data, .data, .handle, .sentinel, .sentinel], laidTests := true, laidLooks := .later }
def ThroughUptoCardSaid : Prop := Claim7.holds Tryz.pinned (.plain (OpenSpec.upto throughSpec)) throughUptoCard

/-- THE SECOND FORM's CARD OF 'mailsievekeep.Twice'. -/
def twiceUptoCard : Claim7 := { stood := { row := twiceUptoRow, standIns := [], harness := (true, "ea7e164c6fe4da811baffb4706d2ea567aa0efc47f88008a5c64f868f8fc8469"), looks := true }, kinds := [], alts := [], laidByText := true, laidKinds := [.data, .data, .data, .handle, .sentinel, .sentinel], laidTests := true, laidLooks := .later }
def TwiceUptoCardSaid : Prop := Claim7.holds Tryz.pinned (.plain (OpenSpec.upto twiceSpec)) twiceUptoCard

/-- THE SECOND FORM's CARD OF 'mailsievelaw.Delivered'. -/
def deliveredUptoCard : Claim7 := { stood := { row := deliveredUptoRow, standIns := [], harness := (true, "ea7e164c6fe4da811baffb4706d2ea567aa0efc47f88008a5c64f868f8fc8469"), looks := true }, kinds := [], alts := [], laidByText := true, laidKinds := [.data, .data, .data, .handle, .sentinel, .sentinel], laidTests := true, laidLooks := .later }
def DeliveredUptoCardSaid : Prop := Claim7.holds Tryz.pinned (.plain (OpenSpec.upto deliveredSpec)) deliveredUptoCard

/-- THE SECOND FORM's CARD OF 'mailsievelaw.Atomic'. -/
def atomicUptoCard : Claim7 := { stood := { row := atomicUptoRow, standIns := [], harness := (true, "ea7e164c6fe4da811baffb4706d2ea567aa0efc47f88008a5c64f868f8fc8469"), looks := true }, kinds := [], alts := [], laidByText := true, laidKinds := [.data, .data, .data, .handle, .sentinel, .sentinel], laidTests := true, laidLooks := .later }
def AtomicUptoCardSaid : Prop := Claim7.holds Tryz.pinned (.plain (OpenSpec.upto atomicSpec)) atomicUptoCard

/-- THE SECOND FORM's CARD OF 'mailsievekeep.Same'. -/
def sameUptoCard : Claim7 := { stood := { row := sameUptoRow, standIns := [], harness := (true, "ea7e164c6fe4da811baffb4706d2ea567aa0efc47f88008a5c64f868f8fc8469"), looks := true }, kinds := [], alts := [], laidByText := true, laidKinds := [.data, .data, .data, .handle], laidTests := true, laidLooks := .later }
def SameUptoCardSaid : Prop := Claim7.holds Tryz.pinned (.plain (OpenSpec.upto sameSpec)) sameUptoCard

/-- THE SECOND FORM's CARD OF 'mailsievekeep.Turned'. -/
def turnedUptoCard : Claim7 := { stood := { row := turnedUptoRow, standIns := [], harness := (true, "ea7e164c6fe4da811baffb4706d2ea567aa0efc47f88008a5c64f868f8fc8469"), looks := true }, kinds := [], alts := [], laidByText := true, laidKinds := [.data, .data, .data, .handle], laidTests := true, laidLooks := .later }
def TurnedUptoCardSaid : Prop := Claim7.holds Tryz.pinned (.plain (OpenSpec.upto turnedSpec)) turnedUptoCard
end Rows
end Go.Proofs.YthopmddkpdehiaaGreatDoor
