/-
  DERIVED. GIVEN WITH THE SEED: THE CARDS: each row of YtjenboicbpiiiaaGreatDoorRows.lean that lists a variable, with what it lists TIED to the program's text (the seventh form; the later family's looks); each row that meets fmt, with fmt's text TOLD by the authors' own Lean function (tested against real Go, not proved from fmt's source: count such statements apart). THE CARD IS WHAT COUNTS. Prove the row's statement (the work); the ties are given (YtjenboicbpiiiaaGreatDoorTie.lean); close each card by the builder's one call (the guide's Derived/Test/ToyasCard.lean, 'card_holds'). Laid BY PROGRAM, IN A SANDBOX (cutbox-door.mjs). By AI agents, Wed Nov 11 2026. No macro, syntax, notation, axiom, sorry.
-/
import Derived.Test.YtjenboicbpiiiaaGreatDoorRows
import GoSem.ClaimSeven
namespace Go.Proofs.YtjenboicbpiiiaaGreatDoor
namespace Rows

/-- THE TIED CARD OF 'cabotagelaw19.SwapKnown'. -/
def swapKnownCard : Claim7 := { stood := { row := swapKnownRow, standIns := [], harness := (true, "17413fc4efaafd219d2c9b3e292132d477f68951f499a45f3449b584aa8ab5e2"), looks := true }, kinds := [], alts := [], laidByText := true, laidKinds := [.handle], laidTests := true, laidLooks := .later }
def SwapKnownCardSaid : Prop := Claim7.holds Tryz.pinned (.plain (OpenSpec.ofChange swapKnownSpec)) swapKnownCard

/-- THE SECOND FORM's CARD OF 'cabotagelaw19.SwapKnown'. -/
def swapKnownUptoCard : Claim7 := { stood := { row := swapKnownUptoRow, standIns := [], harness := (true, "17413fc4efaafd219d2c9b3e292132d477f68951f499a45f3449b584aa8ab5e2"), looks := true }, kinds := [], alts := [], laidByText := true, laidKinds := [.handle], laidTests := true, laidLooks := .later }
def SwapKnownUptoCardSaid : Prop := Claim7.holds Tryz.pinned (.plain (OpenSpec.upto swapKnownSpec)) swapKnownUptoCard
end Rows
end Go.Proofs.YtjenboicbpiiiaaGreatDoor
