/-
  DERIVED. GIVEN WITH THE SEED: THE CARDS: each row of YtiebibpenhncdaaGreatDoorRows.lean that lists a variable, with what it lists TIED to the program's text (the seventh form; the later family's looks); each row that meets fmt, with fmt's text TOLD by the authors' own Lean function (tested against real Go, not proved from fmt's source: count such statements apart). THE CARD IS WHAT COUNTS. Prove the row's statement (the work); the ties are given (YtiebibpenhncdaaGreatDoorTie.lean); close each card by the builder's one call (the guide's Derived/Test/ToyasCard.lean, 'card_holds'). Laid BY PROGRAM, IN A SANDBOX (cutbox-door.mjs). By AI agents, Wed Nov 11 2026. No macro, syntax, notation, axiom, sorry.
-/
import Derived.Test.YtiebibpenhncdaaGreatDoorRows
import GoSem.ClaimSeven
namespace Go.Proofs.YtiebibpenhncdaaGreatDoor
namespace Rows

/-- THE TIED CARD OF 'cabotagelaw19.SwapOrigins'. -/
def swapOriginsCard : Claim7 := { stood := { row := swapOriginsRow, standIns := [], harness := (true, "0d016ad76167210fb9ce189f62dcafa1a5656b03b8cd26583ce27a287f735983"), looks := true }, kinds := [], alts := [], laidByText := true, laidKinds := [.handle], laidTests := true, laidLooks := .later }
def SwapOriginsCardSaid : Prop := Claim7.holds Tryz.pinned (.plain (OpenSpec.ofChange swapOriginsSpec)) swapOriginsCard

/-- THE TIED CARD OF 'cabotagelaw19.SwapDoes'. -/
def swapDoesCard : Claim7 := { stood := { row := swapDoesRow, standIns := [], harness := (true, "0d016ad76167210fb9ce189f62dcafa1a5656b03b8cd26583ce27a287f735983"), looks := true }, kinds := [], alts := [], laidByText := true, laidKinds := [.handle], laidTests := true, laidLooks := .later }
def SwapDoesCardSaid : Prop := Claim7.holds Tryz.pinned (.plain (OpenSpec.ofChange swapDoesSpec)) swapDoesCard

/-- THE TIED CARD OF 'cabotagelaw19.SwapOrders'. -/
def swapOrdersCard : Claim7 := { stood := { row := swapOrdersRow, standIns := [], harness := (true, "0d016ad76167210fb9ce189f62dcafa1a5656b03b8cd26583ce27a287f735983"), looks := true }, kinds := [], alts := [], laidByText := true, laidKinds := [.handle], laidTests := true, laidLooks := .later }
def SwapOrdersCardSaid : Prop := Claim7.holds Tryz.pinned (.plain (OpenSpec.ofChange swapOrdersSpec)) swapOrdersCard

/-- THE TIED CARD OF 'cabotagelaw19.SwapBodies'. -/
def swapBodiesCard : Claim7 := { stood := { row := swapBodiesRow, standIns := [], harness := (true, "0d016ad76167210fb9ce189f62dcafa1a5656b03b8cd26583ce27a287f735983"), looks := true }, kinds := [], alts := [], laidByText := true, laidKinds := [.handle], laidTests := true, laidLooks := .later }
def SwapBodiesCardSaid : Prop := Claim7.holds Tryz.pinned (.plain (OpenSpec.ofChange swapBodiesSpec)) swapBodiesCard

/-- THE TIED CARD OF 'cabotagelaw19.SwapKeeps'. -/
def swapKeepsCard : Claim7 := { stood := { row := swapKeepsRow, standIns := [], harness := (true, "0d016ad76167210fb9ce189f62dcafa1a5656b03b8cd26583ce27a287f735983"), looks := true }, kinds := [], alts := [], laidByText := true, laidKinds := [.handle], laidTests := true, laidLooks := .later }
def SwapKeepsCardSaid : Prop := Claim7.holds Tryz.pinned (.plain (OpenSpec.ofChange swapKeepsSpec)) swapKeepsCard

/-- THE TIED CARD OF 'cabotagelaw19.SwapThens'. -/
def swapThensCard : Claim7 := { stood := { row := swapThensRow, standIns := [], harness := (true, "0d016ad76167210fb9ce189f62dcafa1a5656b03b8cd26583ce27a287f735983"), looks := true }, kinds := [], alts := [], laidByText := true, laidKinds := [.handle], laidTests := true, laidLooks := .later }
def SwapThensCardSaid : Prop := Claim7.holds Tryz.pinned (.plain (OpenSpec.ofChange swapThensSpec)) swapThensCard

/-- THE TIED CARD OF 'cabotagelaw19.SwapSelf'. -/
def swapSelfCard : Claim7 := { stood := { row := swapSelfRow, standIns := [], harness := (true, "0d016ad76167210fb9ce189f62dcafa1a5656b03b8cd26583ce27a287f735983"), looks := true }, kinds := [], alts := [], laidByText := true, laidKinds := [.handle], laidTests := true, laidLooks := .later }
def SwapSelfCardSaid : Prop := Claim7.holds Tryz.pinned (.plain (OpenSpec.ofChange swapSelfSpec)) swapSelfCard

/-- THE TIED CARD OF 'cabotagelaw19.SwapRows'. -/
def swapRowsCard : Claim7 := { stood := { row := swapRowsRow, standIns := [], harness := (true, "0d016ad76167210fb9ce189f62dcafa1a5656b03b8cd26583ce27a287f735983"), looks := true }, kinds := [], alts := [], laidByText := true, laidKinds := [.handle], laidTests := true, laidLooks := .later }
def SwapRowsCardSaid : Prop := Claim7.holds Tryz.pinned (.plain (OpenSpec.ofChange swapRowsSpec)) swapRowsCard

/-- THE SECOND FORM's CARD OF 'cabotagelaw19.SwapOrigins'. -/
def swapOriginsUptoCard : Claim7 := { stood := { row := swapOriginsUptoRow, standIns := [], harness := (true, "0d016ad76167210fb9ce189f62dcafa1a5656b03b8cd26583ce27a287f735983"), looks := true }, kinds := [], alts := [], laidByText := true, laidKinds := [.handle], laidTests := true, laidLooks := .later }
def SwapOriginsUptoCardSaid : Prop := Claim7.holds Tryz.pinned (.plain (OpenSpec.upto swapOriginsSpec)) swapOriginsUptoCard

/-- THE SECOND FORM's CARD OF 'cabotagelaw19.SwapDoes'. -/
def swapDoesUptoCard : Claim7 := { stood := { row := swapDoesUptoRow, standIns := [], harness := (true, "0d016ad76167210fb9ce189f62dcafa1a5656b03b8cd26583ce27a287f735983"), looks := true }, kinds := [], alts := [], laidByText := true, laidKinds := [.handle], laidTests := true, laidLooks := .later }
def SwapDoesUptoCardSaid : Prop := Claim7.holds Tryz.pinned (.plain (OpenSpec.upto swapDoesSpec)) swapDoesUptoCard

/-- THE SECOND FORM's CARD OF 'cabotagelaw19.SwapOrders'. -/
def swapOrdersUptoCard : Claim7 := { stood := { row := swapOrdersUptoRow, standIns := [], harness := (true, "0d016ad76167210fb9ce189f62dcafa1a5656b03b8cd26583ce27a287f735983"), looks := true }, kinds := [], alts := [], laidByText := true, laidKinds := [.handle], laidTests := true, laidLooks := .later }
def SwapOrdersUptoCardSaid : Prop := Claim7.holds Tryz.pinned (.plain (OpenSpec.upto swapOrdersSpec)) swapOrdersUptoCard

/-- THE SECOND FORM's CARD OF 'cabotagelaw19.SwapBodies'. -/
def swapBodiesUptoCard : Claim7 := { stood := { row := swapBodiesUptoRow, standIns := [], harness := (true, "0d016ad76167210fb9ce189f62dcafa1a5656b03b8cd26583ce27a287f735983"), looks := true }, kinds := [], alts := [], laidByText := true, laidKinds := [.handle], laidTests := true, laidLooks := .later }
def SwapBodiesUptoCardSaid : Prop := Claim7.holds Tryz.pinned (.plain (OpenSpec.upto swapBodiesSpec)) swapBodiesUptoCard

/-- THE SECOND FORM's CARD OF 'cabotagelaw19.SwapKeeps'. -/
def swapKeepsUptoCard : Claim7 := { stood := { row := swapKeepsUptoRow, standIns := [], harness := (true, "0d016ad76167210fb9ce189f62dcafa1a5656b03b8cd26583ce27a287f735983"), looks := true }, kinds := [], alts := [], laidByText := true, laidKinds := [.handle], laidTests := true, laidLooks := .later }
def SwapKeepsUptoCardSaid : Prop := Claim7.holds Tryz.pinned (.plain (OpenSpec.upto swapKeepsSpec)) swapKeepsUptoCard

/-- THE SECOND FORM's CARD OF 'cabotagelaw19.SwapThens'. -/
def swapThensUptoCard : Claim7 := { stood := { row := swapThensUptoRow, standIns := [], harness := (true, "0d016ad76167210fb9ce189f62dcafa1a5656b03b8cd26583ce27a287f735983"), looks := true }, kinds := [], alts := [], laidByText := true, laidKinds := [.handle], laidTests := true, laidLooks := .later }
def SwapThensUptoCardSaid : Prop := Claim7.holds Tryz.pinned (.plain (OpenSpec.upto swapThensSpec)) swapThensUptoCard

/-- THE SECOND FORM's CARD OF 'cabotagelaw19.SwapSelf'. -/
def swapSelfUptoCard : Claim7 := { stood := { row := swapSelfUptoRow, standIns := [], harness := (true, "0d016ad76167210fb9ce189f62dcafa1a5656b03b8cd26583ce27a287f735983"), looks := true }, kinds := [], alts := [], laidByText := true, laidKinds := [.handle], laidTests := true, laidLooks := .later }
def SwapSelfUptoCardSaid : Prop := Claim7.holds Tryz.pinned (.plain (OpenSpec.upto swapSelfSpec)) swapSelfUptoCard

/-- THE SECOND FORM's CARD OF 'cabotagelaw19.SwapRows'. -/
def swapRowsUptoCard : Claim7 := { stood := { row := swapRowsUptoRow, standIns := [], harness := (true, "0d016ad76167210fb9ce189f62dcafa1a5656b03b8cd26583ce27a287f735983"), looks := true }, kinds := [], alts := [], laidByText := true, laidKinds := [.handle], laidTests := true, laidLooks := .later }
def SwapRowsUptoCardSaid : Prop := Claim7.holds Tryz.pinned (.plain (OpenSpec.upto swapRowsSpec)) swapRowsUptoCard
end Rows
end Go.Proofs.YtiebibpenhncdaaGreatDoor
