/-
  DERIVED. GIVEN WITH THE SEED: THE CARDS: each row of YtjkoholloclgeaaGreatDoorRows.lean that lists a variable, with what it lists TIED to the program's text (the seventh form; the later family's looks); each row that meets fmt, with fmt's text TOLD by the authors' own Lean function (tested against real Go, not proved from fmt's source: count such statements apart). THE CARD IS WHAT COUNTS. Prove the row's statement (the work); the ties are given (YtjkoholloclgeaaGreatDoorTie.lean); close each card by the builder's one call (the guide's Derived/Test/ToyasCard.lean, 'card_holds'). Laid BY PROGRAM, IN A SANDBOX (cutbox-door.mjs). By AI agents, Wed Nov 11 2026. No macro, syntax, notation, axiom, sorry.
-/
import Derived.Test.YtjkoholloclgeaaGreatDoorRows
import GoSem.ClaimSeven
namespace Go.Proofs.YtjkoholloclgeaaGreatDoor
namespace Rows

/-- THE TIED CARD OF 'cabotagelaw23.JamRings'. -/
def jamRingsCard : Claim7 := { stood := { row := jamRingsRow, standIns := [], harness := (true, "521d0d024becd3449cbaa7fc8ddfd8d84abc78d655dc307d7db42fe736fb9c1c"), looks := true }, kinds := [], alts := [], laidByText := true, laidKinds := [.data, .data, .data], laidTests := true, laidLooks := .later }
def JamRingsCardSaid : Prop := Claim7.holds Tryz.pinned (.plain (OpenSpec.ofChange jamRingsSpec)) jamRingsCard

/-- THE TIED CARD OF 'cabotagelaw23.JamArounds'. -/
def jamAroundsCard : Claim7 := { stood := { row := jamAroundsRow, standIns := [], harness := (true, "521d0d024becd3449cbaa7fc8ddfd8d84abc78d655dc307d7db42fe736fb9c1c"), looks := true }, kinds := [], alts := [], laidByText := true, laidKinds := [.data, .data, .data], laidTests := true, laidLooks := .later }
def JamAroundsCardSaid : Prop := Claim7.holds Tryz.pinned (.plain (OpenSpec.ofChange jamAroundsSpec)) jamAroundsCard

/-- THE TIED CARD OF 'cabotagelaw23.JamKnown'. -/
def jamKnownCard : Claim7 := { stood := { row := jamKnownRow, standIns := [], harness := (true, "521d0d024becd3449cbaa7fc8ddfd8d84abc78d655dc307d7db42fe736fb9c1c"), looks := true }, kinds := [], alts := [], laidByText := true, laidKinds := [.data, .data, .data], laidTests := true, laidLooks := .later }
def JamKnownCardSaid : Prop := Claim7.holds Tryz.pinned (.plain (OpenSpec.ofChange jamKnownSpec)) jamKnownCard

/-- THE TIED CARD OF 'cabotagelaw23.JamParts'. -/
def jamPartsCard : Claim7 := { stood := { row := jamPartsRow, standIns := [], harness := (true, "521d0d024becd3449cbaa7fc8ddfd8d84abc78d655dc307d7db42fe736fb9c1c"), looks := true }, kinds := [], alts := [], laidByText := true, laidKinds := [.data, .data, .data], laidTests := true, laidLooks := .later }
def JamPartsCardSaid : Prop := Claim7.holds Tryz.pinned (.plain (OpenSpec.ofChange jamPartsSpec)) jamPartsCard

/-- THE TIED CARD OF 'cabotagelaw23.JamChecks'. -/
def jamChecksCard : Claim7 := { stood := { row := jamChecksRow, standIns := [], harness := (true, "521d0d024becd3449cbaa7fc8ddfd8d84abc78d655dc307d7db42fe736fb9c1c"), looks := true }, kinds := [], alts := [], laidByText := true, laidKinds := [.data, .data, .data], laidTests := true, laidLooks := .later }
def JamChecksCardSaid : Prop := Claim7.holds Tryz.pinned (.plain (OpenSpec.ofChange jamChecksSpec)) jamChecksCard

/-- THE TIED CARD OF 'cabotagelaw23.JamStarves'. -/
def jamStarvesCard : Claim7 := { stood := { row := jamStarvesRow, standIns := [], harness := (true, "521d0d024becd3449cbaa7fc8ddfd8d84abc78d655dc307d7db42fe736fb9c1c"), looks := true }, kinds := [], alts := [], laidByText := true, laidKinds := [.data, .data, .data], laidTests := true, laidLooks := .later }
def JamStarvesCardSaid : Prop := Claim7.holds Tryz.pinned (.plain (OpenSpec.ofChange jamStarvesSpec)) jamStarvesCard

/-- THE TIED CARD OF 'cabotagelaw23.JamFair'. -/
def jamFairCard : Claim7 := { stood := { row := jamFairRow, standIns := [], harness := (true, "521d0d024becd3449cbaa7fc8ddfd8d84abc78d655dc307d7db42fe736fb9c1c"), looks := true }, kinds := [], alts := [], laidByText := true, laidKinds := [.data, .data, .data], laidTests := true, laidLooks := .later }
def JamFairCardSaid : Prop := Claim7.holds Tryz.pinned (.plain (OpenSpec.ofChange jamFairSpec)) jamFairCard

/-- THE TIED CARD OF 'cabotagelaw23.JamTurned'. -/
def jamTurnedCard : Claim7 := { stood := { row := jamTurnedRow, standIns := [], harness := (true, "521d0d024becd3449cbaa7fc8ddfd8d84abc78d655dc307d7db42fe736fb9c1c"), looks := true }, kinds := [], alts := [], laidByText := true, laidKinds := [.data, .data, .data], laidTests := true, laidLooks := .later }
def JamTurnedCardSaid : Prop := Claim7.holds Tryz.pinned (.plain (OpenSpec.ofChange jamTurnedSpec)) jamTurnedCard

/-- THE SECOND FORM's CARD OF 'cabotagelaw23.JamRings'. -/
def jamRingsUptoCard : Claim7 := { stood := { row := jamRingsUptoRow, standIns := [], harness := (true, "521d0d024becd3449cbaa7fc8ddfd8d84abc78d655dc307d7db42fe736fb9c1c"), looks := true }, kinds := [], alts := [], laidByText := true, laidKinds := [.data, .data, .data], laidTests := true, laidLooks := .later }
def JamRingsUptoCardSaid : Prop := Claim7.holds Tryz.pinned (.plain (OpenSpec.upto jamRingsSpec)) jamRingsUptoCard

/-- THE SECOND FORM's CARD OF 'cabotagelaw23.JamArounds'. -/
def jamAroundsUptoCard : Claim7 := { stood := { row := jamAroundsUptoRow, standIns := [], harness := (true, "521d0d024becd3449cbaa7fc8ddfd8d84abc78d655dc307d7db42fe736fb9c1c"), looks := true }, kinds := [], alts := [], laidByText := true, laidKinds := [.data, .data, .data], laidTests := true, laidLooks := .later }
def JamAroundsUptoCardSaid : Prop := Claim7.holds Tryz.pinned (.plain (OpenSpec.upto jamAroundsSpec)) jamAroundsUptoCard

/-- THE SECOND FORM's CARD OF 'cabotagelaw23.JamKnown'. -/
def jamKnownUptoCard : Claim7 := { stood := { row := jamKnownUptoRow, standIns := [], harness := (true, "521d0d024becd3449cbaa7fc8ddfd8d84abc78d655dc307d7db42fe736fb9c1c"), looks := true }, kinds := [], alts := [], laidByText := true, laidKinds := [.data, .data, .data], laidTests := true, laidLooks := .later }
def JamKnownUptoCardSaid : Prop := Claim7.holds Tryz.pinned (.plain (OpenSpec.upto jamKnownSpec)) jamKnownUptoCard

/-- THE SECOND FORM's CARD OF 'cabotagelaw23.JamParts'. -/
def jamPartsUptoCard : Claim7 := { stood := { row := jamPartsUptoRow, standIns := [], harness := (true, "521d0d024becd3449cbaa7fc8ddfd8d84abc78d655dc307d7db42fe736fb9c1c"), looks := true }, kinds := [], alts := [], laidByText := true, laidKinds := [.data, .data, .data], laidTests := true, laidLooks := .later }
def JamPartsUptoCardSaid : Prop := Claim7.holds Tryz.pinned (.plain (OpenSpec.upto jamPartsSpec)) jamPartsUptoCard

/-- THE SECOND FORM's CARD OF 'cabotagelaw23.JamChecks'. -/
def jamChecksUptoCard : Claim7 := { stood := { row := jamChecksUptoRow, standIns := [], harness := (true, "521d0d024becd3449cbaa7fc8ddfd8d84abc78d655dc307d7db42fe736fb9c1c"), looks := true }, kinds := [], alts := [], laidByText := true, laidKinds := [.data, .data, .data], laidTests := true, laidLooks := .later }
def JamChecksUptoCardSaid : Prop := Claim7.holds Tryz.pinned (.plain (OpenSpec.upto jamChecksSpec)) jamChecksUptoCard

/-- THE SECOND FORM's CARD OF 'cabotagelaw23.JamStarves'. -/
def jamStarvesUptoCard : Claim7 := { stood := { row := jamStarvesUptoRow, standIns := [], harness := (true, "521d0d024becd3449cbaa7fc8ddfd8d84abc78d655dc307d7db42fe736fb9c1c"), looks := true }, kinds := [], alts := [], laidByText := true, laidKinds := [.data, .data, .data], laidTests := true, laidLooks := .later }
def JamStarvesUptoCardSaid : Prop := Claim7.holds Tryz.pinned (.plain (OpenSpec.upto jamStarvesSpec)) jamStarvesUptoCard

/-- THE SECOND FORM's CARD OF 'cabotagelaw23.JamFair'. -/
def jamFairUptoCard : Claim7 := { stood := { row := jamFairUptoRow, standIns := [], harness := (true, "521d0d024becd3449cbaa7fc8ddfd8d84abc78d655dc307d7db42fe736fb9c1c"), looks := true }, kinds := [], alts := [], laidByText := true, laidKinds := [.data, .data, .data], laidTests := true, laidLooks := .later }
def JamFairUptoCardSaid : Prop := Claim7.holds Tryz.pinned (.plain (OpenSpec.upto jamFairSpec)) jamFairUptoCard

/-- THE SECOND FORM's CARD OF 'cabotagelaw23.JamTurned'. -/
def jamTurnedUptoCard : Claim7 := { stood := { row := jamTurnedUptoRow, standIns := [], harness := (true, "521d0d024becd3449cbaa7fc8ddfd8d84abc78d655dc307d7db42fe736fb9c1c"), looks := true }, kinds := [], alts := [], laidByText := true, laidKinds := [.data, .data, .data], laidTests := true, laidLooks := .later }
def JamTurnedUptoCardSaid : Prop := Claim7.holds Tryz.pinned (.plain (OpenSpec.upto jamTurnedSpec)) jamTurnedUptoCard
end Rows
end Go.Proofs.YtjkoholloclgeaaGreatDoor
