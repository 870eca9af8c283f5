/-
  No cell of these rows narrows 'for every input' (looked for: loops, veiled, ifaces, maps, wideKeys, modest, calm, conditions, laid).
  DERIVED. THE GIVEN ROWS OF THIS SEAT. 6 by the template 'for every input the law returns true; each argument reads behind the call as it read before'; 0 by the template 'total and deterministic' (their statements: YtffbioplncclkaaGreatTotals.lean).
  GIVEN WITH THE SEED: the statements are not yours to turn. If you find one false, say at which input.
  Laid BY PROGRAM, IN A SANDBOX (cutbox-rows.mjs): the forced cells as the released guide's own fill.sh prints them over the translation d22b914250e79e08… (all of the seat's roots in one cut). By AI agents, Wed Nov 11 2026. No macro, syntax, notation, axiom, sorry.
-/
import Derived.Test.YtffbioplncclkaaGreatChecked
import GoSem.Claim
import GoSem.ClaimJoined
import GoSem.ClaimMapViews
import Derived.JoinedTies
import Derived.KernelRfl
namespace Go.Proofs.YtffbioplncclkaaGreat
/- THE CELL 'sum', in the pinned program and in every row, IS THE sha256 OF THE DUMP (.gsa) THAT YtffbioplncclkaaGreatProg.lean LOADS. Nothing in Lean hashes anything: it is a label: what it is worth is what the hold of that sum in a sandbox is worth. -/
noncomputable def Tryz.pinned : Pinned := { name := "ytffbioplncclkaagreat", sum := "d22b914250e79e08cd61b2815f18a910dd9c885c69b0fc0e134cd2c4d0dcdb7e", checked := Tryz.checked }
namespace Rows
def none {H : Type} : Left H := { results := [], args := [] }

/-- 'cabotagelaw12.WireBytes': WHATEVER THE INPUT: true; the input reads as it did. -/
def wireBytesSpec : ChangeSpec := { name := "wireBytes", fn := fun _ => fun
  | [d1, d2] => { results := [.lit (.bool true)], args := [d1, d2] }
  | _ => none }
def wireBytesRow : OpenClaim := { program := "ytffbioplncclkaagreat", sum := "d22b914250e79e08cd61b2815f18a910dd9c885c69b0fc0e134cd2c4d0dcdb7e", func := "cabotage/cabotagelaw12.WireBytes", spec := "wireBytes", inPlace := ["slices.overlaps[cabotage/api.SolWait]"], unfollowed := true, recurses := true, plainKeys := false, apart := false }
def WireBytesSaid : Prop := wireBytesRow.holds Tryz.pinned (OpenSpec.ofChange wireBytesSpec)

/-- ITS FALSE NEIGHBOUR: 'it returns false'. Refute it at one input. -/
def wireBytesWrong : ChangeSpec := { name := "wireBytes", fn := fun _ => fun
  | [d1, d2] => { results := [.lit (.bool false)], args := [d1, d2] }
  | _ => none }
def WireBytesWrongFalsely : Prop := wireBytesRow.holds Tryz.pinned (OpenSpec.ofChange wireBytesWrong)

/-- 'cabotagelaw12.WireLetters': WHATEVER THE INPUT: true; the input reads as it did. -/
def wireLettersSpec : ChangeSpec := { name := "wireLetters", fn := fun _ => fun
  | [d1, d2] => { results := [.lit (.bool true)], args := [d1, d2] }
  | _ => none }
def wireLettersRow : OpenClaim := { program := "ytffbioplncclkaagreat", sum := "d22b914250e79e08cd61b2815f18a910dd9c885c69b0fc0e134cd2c4d0dcdb7e", func := "cabotage/cabotagelaw12.WireLetters", spec := "wireLetters", inPlace := ["slices.overlaps[cabotage/api.SolWait]"], unfollowed := true, recurses := true, plainKeys := false, apart := false }
def WireLettersSaid : Prop := wireLettersRow.holds Tryz.pinned (OpenSpec.ofChange wireLettersSpec)

/-- ITS FALSE NEIGHBOUR: 'it returns false'. Refute it at one input. -/
def wireLettersWrong : ChangeSpec := { name := "wireLetters", fn := fun _ => fun
  | [d1, d2] => { results := [.lit (.bool false)], args := [d1, d2] }
  | _ => none }
def WireLettersWrongFalsely : Prop := wireLettersRow.holds Tryz.pinned (OpenSpec.ofChange wireLettersWrong)

/-- 'cabotagelaw12.WireTables': WHATEVER THE INPUT: true; the input reads as it did. -/
def wireTablesSpec : ChangeSpec := { name := "wireTables", fn := fun _ => fun
  | [d1, d2] => { results := [.lit (.bool true)], args := [d1, d2] }
  | _ => none }
def wireTablesRow : OpenClaim := { program := "ytffbioplncclkaagreat", sum := "d22b914250e79e08cd61b2815f18a910dd9c885c69b0fc0e134cd2c4d0dcdb7e", func := "cabotage/cabotagelaw12.WireTables", spec := "wireTables", inPlace := ["slices.overlaps[cabotage/api.SolWait]"], unfollowed := true, recurses := true, plainKeys := false, apart := false }
def WireTablesSaid : Prop := wireTablesRow.holds Tryz.pinned (OpenSpec.ofChange wireTablesSpec)

/-- ITS FALSE NEIGHBOUR: 'it returns false'. Refute it at one input. -/
def wireTablesWrong : ChangeSpec := { name := "wireTables", fn := fun _ => fun
  | [d1, d2] => { results := [.lit (.bool false)], args := [d1, d2] }
  | _ => none }
def WireTablesWrongFalsely : Prop := wireTablesRow.holds Tryz.pinned (OpenSpec.ofChange wireTablesWrong)

/-- 'cabotagelaw12.WireOne': WHATEVER THE INPUT: true; the input reads as it did. -/
def wireOneSpec : ChangeSpec := { name := "wireOne", fn := fun _ => fun
  | [d1, d2, d3] => { results := [.lit (.bool true)], args := [d1, d2, d3] }
  | _ => none }
def wireOneRow : OpenClaim := { program := "ytffbioplncclkaagreat", sum := "d22b914250e79e08cd61b2815f18a910dd9c885c69b0fc0e134cd2c4d0dcdb7e", func := "cabotage/cabotagelaw12.WireOne", spec := "wireOne", inPlace := ["slices.overlaps[cabotage/api.SolWait]"], unfollowed := true, recurses := true, plainKeys := false, apart := false }
def WireOneSaid : Prop := wireOneRow.holds Tryz.pinned (OpenSpec.ofChange wireOneSpec)

/-- ITS FALSE NEIGHBOUR: 'it returns false'. Refute it at one input. -/
def wireOneWrong : ChangeSpec := { name := "wireOne", fn := fun _ => fun
  | [d1, d2, d3] => { results := [.lit (.bool false)], args := [d1, d2, d3] }
  | _ => none }
def WireOneWrongFalsely : Prop := wireOneRow.holds Tryz.pinned (OpenSpec.ofChange wireOneWrong)

/-- 'cabotagelaw12.WireDamage': WHATEVER THE INPUT: true; the input reads as it did. -/
def wireDamageSpec : ChangeSpec := { name := "wireDamage", fn := fun _ => fun
  | [d1, d2, d3, d4] => { results := [.lit (.bool true)], args := [d1, d2, d3, d4] }
  | _ => none }
def wireDamageRow : OpenClaim := { program := "ytffbioplncclkaagreat", sum := "d22b914250e79e08cd61b2815f18a910dd9c885c69b0fc0e134cd2c4d0dcdb7e", func := "cabotage/cabotagelaw12.WireDamage", spec := "wireDamage", inPlace := ["slices.overlaps[cabotage/api.SolWait]"], unfollowed := true, recurses := true, plainKeys := false, apart := false }
def WireDamageSaid : Prop := wireDamageRow.holds Tryz.pinned (OpenSpec.ofChange wireDamageSpec)

/-- ITS FALSE NEIGHBOUR: 'it returns false'. Refute it at one input. -/
def wireDamageWrong : ChangeSpec := { name := "wireDamage", fn := fun _ => fun
  | [d1, d2, d3, d4] => { results := [.lit (.bool false)], args := [d1, d2, d3, d4] }
  | _ => none }
def WireDamageWrongFalsely : Prop := wireDamageRow.holds Tryz.pinned (OpenSpec.ofChange wireDamageWrong)

/-- 'cabotagelaw12.WireNames': WHATEVER THE INPUT: true; the input reads as it did. -/
def wireNamesSpec : ChangeSpec := { name := "wireNames", fn := fun _ => fun
  | [d1, d2] => { results := [.lit (.bool true)], args := [d1, d2] }
  | _ => none }
def wireNamesRow : OpenClaim := { program := "ytffbioplncclkaagreat", sum := "d22b914250e79e08cd61b2815f18a910dd9c885c69b0fc0e134cd2c4d0dcdb7e", func := "cabotage/cabotagelaw12.WireNames", spec := "wireNames", inPlace := ["slices.overlaps[cabotage/api.SolWait]"], unfollowed := true, recurses := true, plainKeys := false, apart := false }
def WireNamesSaid : Prop := wireNamesRow.holds Tryz.pinned (OpenSpec.ofChange wireNamesSpec)

/-- ITS FALSE NEIGHBOUR: 'it returns false'. Refute it at one input. -/
def wireNamesWrong : ChangeSpec := { name := "wireNames", fn := fun _ => fun
  | [d1, d2] => { results := [.lit (.bool false)], args := [d1, d2] }
  | _ => none }
def WireNamesWrongFalsely : Prop := wireNamesRow.holds Tryz.pinned (OpenSpec.ofChange wireNamesWrong)

/- THE SECOND FORM. 'bulk': how many values and letters a reading holds, each counted each time it is reached (what is shared counts as often as it is met; a slice's spare places count too). A statement '..UptoSaid' is the law's where the arguments, and the package variables that the reading takes, are together of bulk at most 1048576: NARROWER than '..Said'. Prove '..Said' where nothing that the law and all that it calls make is longer than what came in: it says more and counts as full. Else prove '..UptoSaid'. A law counts once. -/
mutual
def uptoBulk {H : Type} : DataW H → Nat
  | .lit (.string bytes) => bytes.length + 1
  | .lit _ => 1
  | .nil => 1
  | .ptr d => uptoBulk d + 1
  | .slice elems spare => uptoBulkAll elems + uptoBulkAll spare + 1
  | .agg parts => uptoBulkAll parts + 1
  | .iface _ d => uptoBulk d + 1
  | .map entries => uptoBulkEntries entries + 1
  | .held _ => 1
def uptoBulkAll {H : Type} : List (DataW H) → Nat
  | [] => 0
  | d :: r => uptoBulk d + uptoBulkAll r
def uptoBulkEntries {H : Type} : List (Lit × DataW H) → Nat
  | [] => 0
  | x :: r => uptoBulkEntry x + uptoBulkEntries r
def uptoBulkEntry {H : Type} : Lit × DataW H → Nat
  | (.string bytes, d) => bytes.length + uptoBulk d + 1
  | (_, d) => uptoBulk d + 1
 end
def uptoSmall : (H : Type) → List (DataW H) → Bool := fun _ ds => decide (uptoBulkAll ds ≤ 1048576)
def OpenSpec.upto (s : _root_.Go.ChangeSpec) : _root_.Go.OpenSpec := { _root_.Go.OpenSpec.ofChange s with cond := some uptoSmall }

/-- 'cabotagelaw12.WireBytes', WHERE WHAT IT READS IS OF BULK AT MOST 1048576: true; the input reads as it did. -/
def wireBytesUptoRow : OpenClaim := { program := "ytffbioplncclkaagreat", sum := "d22b914250e79e08cd61b2815f18a910dd9c885c69b0fc0e134cd2c4d0dcdb7e", func := "cabotage/cabotagelaw12.WireBytes", spec := "wireBytes", inPlace := ["slices.overlaps[cabotage/api.SolWait]"], unfollowed := true, recurses := true, plainKeys := false, apart := false, narrowed := true }
def WireBytesUptoSaid : Prop := wireBytesUptoRow.holds Tryz.pinned (OpenSpec.upto wireBytesSpec)

/-- 'cabotagelaw12.WireLetters', WHERE WHAT IT READS IS OF BULK AT MOST 1048576: true; the input reads as it did. -/
def wireLettersUptoRow : OpenClaim := { program := "ytffbioplncclkaagreat", sum := "d22b914250e79e08cd61b2815f18a910dd9c885c69b0fc0e134cd2c4d0dcdb7e", func := "cabotage/cabotagelaw12.WireLetters", spec := "wireLetters", inPlace := ["slices.overlaps[cabotage/api.SolWait]"], unfollowed := true, recurses := true, plainKeys := false, apart := false, narrowed := true }
def WireLettersUptoSaid : Prop := wireLettersUptoRow.holds Tryz.pinned (OpenSpec.upto wireLettersSpec)

/-- 'cabotagelaw12.WireTables', WHERE WHAT IT READS IS OF BULK AT MOST 1048576: true; the input reads as it did. -/
def wireTablesUptoRow : OpenClaim := { program := "ytffbioplncclkaagreat", sum := "d22b914250e79e08cd61b2815f18a910dd9c885c69b0fc0e134cd2c4d0dcdb7e", func := "cabotage/cabotagelaw12.WireTables", spec := "wireTables", inPlace := ["slices.overlaps[cabotage/api.SolWait]"], unfollowed := true, recurses := true, plainKeys := false, apart := false, narrowed := true }
def WireTablesUptoSaid : Prop := wireTablesUptoRow.holds Tryz.pinned (OpenSpec.upto wireTablesSpec)

/-- 'cabotagelaw12.WireOne', WHERE WHAT IT READS IS OF BULK AT MOST 1048576: true; the input reads as it did. -/
def wireOneUptoRow : OpenClaim := { program := "ytffbioplncclkaagreat", sum := "d22b914250e79e08cd61b2815f18a910dd9c885c69b0fc0e134cd2c4d0dcdb7e", func := "cabotage/cabotagelaw12.WireOne", spec := "wireOne", inPlace := ["slices.overlaps[cabotage/api.SolWait]"], unfollowed := true, recurses := true, plainKeys := false, apart := false, narrowed := true }
def WireOneUptoSaid : Prop := wireOneUptoRow.holds Tryz.pinned (OpenSpec.upto wireOneSpec)

/-- 'cabotagelaw12.WireDamage', WHERE WHAT IT READS IS OF BULK AT MOST 1048576: true; the input reads as it did. -/
def wireDamageUptoRow : OpenClaim := { program := "ytffbioplncclkaagreat", sum := "d22b914250e79e08cd61b2815f18a910dd9c885c69b0fc0e134cd2c4d0dcdb7e", func := "cabotage/cabotagelaw12.WireDamage", spec := "wireDamage", inPlace := ["slices.overlaps[cabotage/api.SolWait]"], unfollowed := true, recurses := true, plainKeys := false, apart := false, narrowed := true }
def WireDamageUptoSaid : Prop := wireDamageUptoRow.holds Tryz.pinned (OpenSpec.upto wireDamageSpec)

/-- 'cabotagelaw12.WireNames', WHERE WHAT IT READS IS OF BULK AT MOST 1048576: true; the input reads as it did. -/
def wireNamesUptoRow : OpenClaim := { program := "ytffbioplncclkaagreat", sum := "d22b914250e79e08cd61b2815f18a910dd9c885c69b0fc0e134cd2c4d0dcdb7e", func := "cabotage/cabotagelaw12.WireNames", spec := "wireNames", inPlace := ["slices.overlaps[cabotage/api.SolWait]"], unfollowed := true, recurses := true, plainKeys := false, apart := false, narrowed := true }
def WireNamesUptoSaid : Prop := wireNamesUptoRow.holds Tryz.pinned (OpenSpec.upto wireNamesSpec)

end Rows
end Go.Proofs.YtffbioplncclkaaGreat
