/-
  NARROWER THAN 'FOR EVERY INPUT', by the rows' own cells (each row's printed sentence says how): SwapOrigins: loops, laid · SwapDoes: loops, laid · SwapOrders: loops, laid · SwapBodies: loops, laid · SwapKeeps: loops, laid · SwapThens: loops, laid · SwapSelf: loops, laid · SwapRows: loops, laid.
  DERIVED. THE GIVEN ROWS OF THIS SEAT. 8 by the template 'for every input the law returns true; each argument reads behind the call as it read before'; 0 by the template 'total and deterministic' (their statements: YtiebibpenhncdaaGreatDoorTotals.lean).
  GIVEN WITH THE SEED: the statements are not yours to turn. If you find one false, say at which input.
  Laid BY PROGRAM, IN A SANDBOX (cutbox-rows.mjs): the forced cells as the released guide's own fill.sh prints them over the translation 885fdcadc3385e1c… (all of the seat's roots in one cut). By AI agents, Wed Nov 11 2026. No macro, syntax, notation, axiom, sorry.
-/
import Derived.Test.YtiebibpenhncdaaGreatDoorChecked
import GoSem.Claim
import GoSem.ClaimJoined
import GoSem.ClaimMapViews
import Derived.JoinedTies
import Derived.KernelRfl
namespace Go.Proofs.YtiebibpenhncdaaGreatDoor
/- THE CELL 'sum', in the pinned program and in every row, IS THE sha256 OF THE DUMP (.gsa) THAT YtiebibpenhncdaaGreatDoorProg.lean LOADS. Nothing in Lean hashes anything: it is a label: what it is worth is what the hold of that sum in a sandbox is worth. -/
noncomputable def Tryz.pinned : Pinned := { name := "ytiebibpenhncdaagreatdoor", sum := "885fdcadc3385e1cd65671e51d897e2a2a449e0290a659e87fd046cdfdccba0f", checked := Tryz.checked }
namespace Rows
def none {H : Type} : Left H := { results := [], args := [] }

/- WHAT THE LISTED PACKAGE-LEVEL VARIABLES READ AS WHEN THE CALL BEGINS. Each datum BY PROGRAM (the guide's laid-datum.mjs) off the statement by which the dump's own 'gosem.cut.vars' lays the variable. In a bare row this is a premise. The card (YtiebibpenhncdaaGreatDoorCards.lean) ties it to the program's text. -/
def laid_errors_errorType {H : Type} : DataW H := .iface "internal/reflectlite.rtype" (.agg [.ptr (.lit (.string [101, 114, 114, 111, 114]))])

/-- 'cabotagelaw19.SwapOrigins': WHATEVER THE INPUT: true; the input reads as it did. -/
def swapOriginsSpec : ChangeSpec := { name := "swapOrigins", fn := fun _ => fun
  | [d1, d2] => { results := [.lit (.bool true)], args := [d1, d2] }
  | _ => none }
def swapOriginsRow : OpenClaim := { program := "ytiebibpenhncdaagreatdoor", sum := "885fdcadc3385e1cd65671e51d897e2a2a449e0290a659e87fd046cdfdccba0f", func := "cabotage/cabotagelaw19.SwapOrigins", spec := "swapOrigins", inPlace := ["internal/reflectlite.ValueOf", "(internal/reflectlite.Value).Type", "(internal/reflectlite.Value).IsNil", "internal/reflectlite.TypeOf", "(internal/reflectlite.Value).Elem", "(internal/reflectlite.Value).Set"], unfollowed := true, recurses := true, named := ["errors.errorType"], loops := true, plainKeys := false, apart := false, laid := [("errors.errorType", laid_errors_errorType)] }
def SwapOriginsSaid : Prop := swapOriginsRow.holds Tryz.pinned (OpenSpec.ofChange swapOriginsSpec)

/-- ITS FALSE NEIGHBOUR: 'it returns false'. Refute it at one input. -/
def swapOriginsWrong : ChangeSpec := { name := "swapOrigins", fn := fun _ => fun
  | [d1, d2] => { results := [.lit (.bool false)], args := [d1, d2] }
  | _ => none }
def SwapOriginsWrongFalsely : Prop := swapOriginsRow.holds Tryz.pinned (OpenSpec.ofChange swapOriginsWrong)

/-- 'cabotagelaw19.SwapDoes': WHATEVER THE INPUT: true; the input reads as it did. -/
def swapDoesSpec : ChangeSpec := { name := "swapDoes", fn := fun _ => fun
  | [d1, d2, d3, d4] => { results := [.lit (.bool true)], args := [d1, d2, d3, d4] }
  | _ => none }
def swapDoesRow : OpenClaim := { program := "ytiebibpenhncdaagreatdoor", sum := "885fdcadc3385e1cd65671e51d897e2a2a449e0290a659e87fd046cdfdccba0f", func := "cabotage/cabotagelaw19.SwapDoes", spec := "swapDoes", inPlace := ["internal/reflectlite.ValueOf", "(internal/reflectlite.Value).Type", "(internal/reflectlite.Value).IsNil", "internal/reflectlite.TypeOf", "(internal/reflectlite.Value).Elem", "(internal/reflectlite.Value).Set"], unfollowed := true, recurses := true, named := ["errors.errorType"], loops := true, plainKeys := false, apart := false, laid := [("errors.errorType", laid_errors_errorType)] }
def SwapDoesSaid : Prop := swapDoesRow.holds Tryz.pinned (OpenSpec.ofChange swapDoesSpec)

/-- ITS FALSE NEIGHBOUR: 'it returns false'. Refute it at one input. -/
def swapDoesWrong : ChangeSpec := { name := "swapDoes", fn := fun _ => fun
  | [d1, d2, d3, d4] => { results := [.lit (.bool false)], args := [d1, d2, d3, d4] }
  | _ => none }
def SwapDoesWrongFalsely : Prop := swapDoesRow.holds Tryz.pinned (OpenSpec.ofChange swapDoesWrong)

/-- 'cabotagelaw19.SwapOrders': WHATEVER THE INPUT: true; the input reads as it did. -/
def swapOrdersSpec : ChangeSpec := { name := "swapOrders", fn := fun _ => fun
  | [d1, d2, d3, d4] => { results := [.lit (.bool true)], args := [d1, d2, d3, d4] }
  | _ => none }
def swapOrdersRow : OpenClaim := { program := "ytiebibpenhncdaagreatdoor", sum := "885fdcadc3385e1cd65671e51d897e2a2a449e0290a659e87fd046cdfdccba0f", func := "cabotage/cabotagelaw19.SwapOrders", spec := "swapOrders", inPlace := ["internal/reflectlite.ValueOf", "(internal/reflectlite.Value).Type", "(internal/reflectlite.Value).IsNil", "internal/reflectlite.TypeOf", "(internal/reflectlite.Value).Elem", "(internal/reflectlite.Value).Set"], unfollowed := true, recurses := true, named := ["errors.errorType"], loops := true, plainKeys := false, apart := false, laid := [("errors.errorType", laid_errors_errorType)] }
def SwapOrdersSaid : Prop := swapOrdersRow.holds Tryz.pinned (OpenSpec.ofChange swapOrdersSpec)

/-- ITS FALSE NEIGHBOUR: 'it returns false'. Refute it at one input. -/
def swapOrdersWrong : ChangeSpec := { name := "swapOrders", fn := fun _ => fun
  | [d1, d2, d3, d4] => { results := [.lit (.bool false)], args := [d1, d2, d3, d4] }
  | _ => none }
def SwapOrdersWrongFalsely : Prop := swapOrdersRow.holds Tryz.pinned (OpenSpec.ofChange swapOrdersWrong)

/-- 'cabotagelaw19.SwapBodies': WHATEVER THE INPUT: true; the input reads as it did. -/
def swapBodiesSpec : ChangeSpec := { name := "swapBodies", fn := fun _ => fun
  | [d1, d2, d3] => { results := [.lit (.bool true)], args := [d1, d2, d3] }
  | _ => none }
def swapBodiesRow : OpenClaim := { program := "ytiebibpenhncdaagreatdoor", sum := "885fdcadc3385e1cd65671e51d897e2a2a449e0290a659e87fd046cdfdccba0f", func := "cabotage/cabotagelaw19.SwapBodies", spec := "swapBodies", inPlace := ["internal/reflectlite.ValueOf", "(internal/reflectlite.Value).Type", "(internal/reflectlite.Value).IsNil", "internal/reflectlite.TypeOf", "(internal/reflectlite.Value).Elem", "(internal/reflectlite.Value).Set"], unfollowed := true, recurses := true, named := ["errors.errorType"], loops := true, plainKeys := false, apart := false, laid := [("errors.errorType", laid_errors_errorType)] }
def SwapBodiesSaid : Prop := swapBodiesRow.holds Tryz.pinned (OpenSpec.ofChange swapBodiesSpec)

/-- ITS FALSE NEIGHBOUR: 'it returns false'. Refute it at one input. -/
def swapBodiesWrong : ChangeSpec := { name := "swapBodies", fn := fun _ => fun
  | [d1, d2, d3] => { results := [.lit (.bool false)], args := [d1, d2, d3] }
  | _ => none }
def SwapBodiesWrongFalsely : Prop := swapBodiesRow.holds Tryz.pinned (OpenSpec.ofChange swapBodiesWrong)

/-- 'cabotagelaw19.SwapKeeps': WHATEVER THE INPUT: true; the input reads as it did. -/
def swapKeepsSpec : ChangeSpec := { name := "swapKeeps", fn := fun _ => fun
  | [d1, d2, d3, d4] => { results := [.lit (.bool true)], args := [d1, d2, d3, d4] }
  | _ => none }
def swapKeepsRow : OpenClaim := { program := "ytiebibpenhncdaagreatdoor", sum := "885fdcadc3385e1cd65671e51d897e2a2a449e0290a659e87fd046cdfdccba0f", func := "cabotage/cabotagelaw19.SwapKeeps", spec := "swapKeeps", inPlace := ["internal/reflectlite.ValueOf", "(internal/reflectlite.Value).Type", "(internal/reflectlite.Value).IsNil", "internal/reflectlite.TypeOf", "(internal/reflectlite.Value).Elem", "(internal/reflectlite.Value).Set"], unfollowed := true, recurses := true, named := ["errors.errorType"], loops := true, plainKeys := false, apart := false, laid := [("errors.errorType", laid_errors_errorType)] }
def SwapKeepsSaid : Prop := swapKeepsRow.holds Tryz.pinned (OpenSpec.ofChange swapKeepsSpec)

/-- ITS FALSE NEIGHBOUR: 'it returns false'. Refute it at one input. -/
def swapKeepsWrong : ChangeSpec := { name := "swapKeeps", fn := fun _ => fun
  | [d1, d2, d3, d4] => { results := [.lit (.bool false)], args := [d1, d2, d3, d4] }
  | _ => none }
def SwapKeepsWrongFalsely : Prop := swapKeepsRow.holds Tryz.pinned (OpenSpec.ofChange swapKeepsWrong)

/-- 'cabotagelaw19.SwapThens': WHATEVER THE INPUT: true; the input reads as it did. -/
def swapThensSpec : ChangeSpec := { name := "swapThens", fn := fun _ => fun
  | [d1, d2, d3, d4, d5] => { results := [.lit (.bool true)], args := [d1, d2, d3, d4, d5] }
  | _ => none }
def swapThensRow : OpenClaim := { program := "ytiebibpenhncdaagreatdoor", sum := "885fdcadc3385e1cd65671e51d897e2a2a449e0290a659e87fd046cdfdccba0f", func := "cabotage/cabotagelaw19.SwapThens", spec := "swapThens", inPlace := ["internal/reflectlite.ValueOf", "(internal/reflectlite.Value).Type", "(internal/reflectlite.Value).IsNil", "internal/reflectlite.TypeOf", "(internal/reflectlite.Value).Elem", "(internal/reflectlite.Value).Set"], unfollowed := true, recurses := true, named := ["errors.errorType"], loops := true, plainKeys := false, apart := false, laid := [("errors.errorType", laid_errors_errorType)] }
def SwapThensSaid : Prop := swapThensRow.holds Tryz.pinned (OpenSpec.ofChange swapThensSpec)

/-- ITS FALSE NEIGHBOUR: 'it returns false'. Refute it at one input. -/
def swapThensWrong : ChangeSpec := { name := "swapThens", fn := fun _ => fun
  | [d1, d2, d3, d4, d5] => { results := [.lit (.bool false)], args := [d1, d2, d3, d4, d5] }
  | _ => none }
def SwapThensWrongFalsely : Prop := swapThensRow.holds Tryz.pinned (OpenSpec.ofChange swapThensWrong)

/-- 'cabotagelaw19.SwapSelf': WHATEVER THE INPUT: true; the input reads as it did. -/
def swapSelfSpec : ChangeSpec := { name := "swapSelf", fn := fun _ => fun
  | [d1, d2] => { results := [.lit (.bool true)], args := [d1, d2] }
  | _ => none }
def swapSelfRow : OpenClaim := { program := "ytiebibpenhncdaagreatdoor", sum := "885fdcadc3385e1cd65671e51d897e2a2a449e0290a659e87fd046cdfdccba0f", func := "cabotage/cabotagelaw19.SwapSelf", spec := "swapSelf", inPlace := ["internal/reflectlite.ValueOf", "(internal/reflectlite.Value).Type", "(internal/reflectlite.Value).IsNil", "internal/reflectlite.TypeOf", "(internal/reflectlite.Value).Elem", "(internal/reflectlite.Value).Set"], unfollowed := true, recurses := true, named := ["errors.errorType"], loops := true, plainKeys := false, apart := false, laid := [("errors.errorType", laid_errors_errorType)] }
def SwapSelfSaid : Prop := swapSelfRow.holds Tryz.pinned (OpenSpec.ofChange swapSelfSpec)

/-- ITS FALSE NEIGHBOUR: 'it returns false'. Refute it at one input. -/
def swapSelfWrong : ChangeSpec := { name := "swapSelf", fn := fun _ => fun
  | [d1, d2] => { results := [.lit (.bool false)], args := [d1, d2] }
  | _ => none }
def SwapSelfWrongFalsely : Prop := swapSelfRow.holds Tryz.pinned (OpenSpec.ofChange swapSelfWrong)

/-- 'cabotagelaw19.SwapRows': WHATEVER THE INPUT: true; the input reads as it did. -/
def swapRowsSpec : ChangeSpec := { name := "swapRows", fn := fun _ => fun
  | [d1, d2, d3, d4, d5, d6] => { results := [.lit (.bool true)], args := [d1, d2, d3, d4, d5, d6] }
  | _ => none }
def swapRowsRow : OpenClaim := { program := "ytiebibpenhncdaagreatdoor", sum := "885fdcadc3385e1cd65671e51d897e2a2a449e0290a659e87fd046cdfdccba0f", func := "cabotage/cabotagelaw19.SwapRows", spec := "swapRows", inPlace := ["internal/reflectlite.ValueOf", "(internal/reflectlite.Value).Type", "(internal/reflectlite.Value).IsNil", "internal/reflectlite.TypeOf", "(internal/reflectlite.Value).Elem", "(internal/reflectlite.Value).Set"], unfollowed := true, recurses := true, named := ["errors.errorType"], loops := true, plainKeys := false, apart := false, laid := [("errors.errorType", laid_errors_errorType)] }
def SwapRowsSaid : Prop := swapRowsRow.holds Tryz.pinned (OpenSpec.ofChange swapRowsSpec)

/-- ITS FALSE NEIGHBOUR: 'it returns false'. Refute it at one input. -/
def swapRowsWrong : ChangeSpec := { name := "swapRows", fn := fun _ => fun
  | [d1, d2, d3, d4, d5, d6] => { results := [.lit (.bool false)], args := [d1, d2, d3, d4, d5, d6] }
  | _ => none }
def SwapRowsWrongFalsely : Prop := swapRowsRow.holds Tryz.pinned (OpenSpec.ofChange swapRowsWrong)

/- THE SECOND FORM. 'bulk': how many values and letters a reading holds, each counted each time it is reached (what is shared counts as often as it is met; a slice's spare places count too). A statement '..UptoSaid' is the law's where the arguments, and the package variables that the reading takes, are together of bulk at most 1048576: NARROWER than '..Said'. Prove '..Said' where nothing that the law and all that it calls make is longer than what came in: it says more and counts as full. Else prove '..UptoSaid'. A law counts once. -/
mutual
def uptoBulk {H : Type} : DataW H → Nat
  | .lit (.string bytes) => bytes.length + 1
  | .lit _ => 1
  | .nil => 1
  | .ptr d => uptoBulk d + 1
  | .slice elems spare => uptoBulkAll elems + uptoBulkAll spare + 1
  | .agg parts => uptoBulkAll parts + 1
  | .iface _ d => uptoBulk d + 1
  | .map entries => uptoBulkEntries entries + 1
  | .held _ => 1
def uptoBulkAll {H : Type} : List (DataW H) → Nat
  | [] => 0
  | d :: r => uptoBulk d + uptoBulkAll r
def uptoBulkEntries {H : Type} : List (Lit × DataW H) → Nat
  | [] => 0
  | x :: r => uptoBulkEntry x + uptoBulkEntries r
def uptoBulkEntry {H : Type} : Lit × DataW H → Nat
  | (.string bytes, d) => bytes.length + uptoBulk d + 1
  | (_, d) => uptoBulk d + 1
 end
def uptoSmall : (H : Type) → List (DataW H) → Bool := fun _ ds => decide (uptoBulkAll ds ≤ 1048576)
def OpenSpec.upto (s : _root_.Go.ChangeSpec) : _root_.Go.OpenSpec := { _root_.Go.OpenSpec.ofChange s with cond := some uptoSmall }

/-- 'cabotagelaw19.SwapOrigins', WHERE WHAT IT READS IS OF BULK AT MOST 1048576: true; the input reads as it did. -/
def swapOriginsUptoRow : OpenClaim := { program := "ytiebibpenhncdaagreatdoor", sum := "885fdcadc3385e1cd65671e51d897e2a2a449e0290a659e87fd046cdfdccba0f", func := "cabotage/cabotagelaw19.SwapOrigins", spec := "swapOrigins", inPlace := ["internal/reflectlite.ValueOf", "(internal/reflectlite.Value).Type", "(internal/reflectlite.Value).IsNil", "internal/reflectlite.TypeOf", "(internal/reflectlite.Value).Elem", "(internal/reflectlite.Value).Set"], unfollowed := true, recurses := true, named := ["errors.errorType"], loops := true, plainKeys := false, apart := false, laid := [("errors.errorType", laid_errors_errorType)], narrowed := true }
def SwapOriginsUptoSaid : Prop := swapOriginsUptoRow.holds Tryz.pinned (OpenSpec.upto swapOriginsSpec)

/-- 'cabotagelaw19.SwapDoes', WHERE WHAT IT READS IS OF BULK AT MOST 1048576: true; the input reads as it did. -/
def swapDoesUptoRow : OpenClaim := { program := "ytiebibpenhncdaagreatdoor", sum := "885fdcadc3385e1cd65671e51d897e2a2a449e0290a659e87fd046cdfdccba0f", func := "cabotage/cabotagelaw19.SwapDoes", spec := "swapDoes", inPlace := ["internal/reflectlite.ValueOf", "(internal/reflectlite.Value).Type", "(internal/reflectlite.Value).IsNil", "internal/reflectlite.TypeOf", "(internal/reflectlite.Value).Elem", "(internal/reflectlite.Value).Set"], unfollowed := true, recurses := true, named := ["errors.errorType"], loops := true, plainKeys := false, apart := false, laid := [("errors.errorType", laid_errors_errorType)], narrowed := true }
def SwapDoesUptoSaid : Prop := swapDoesUptoRow.holds Tryz.pinned (OpenSpec.upto swapDoesSpec)

/-- 'cabotagelaw19.SwapOrders', WHERE WHAT IT READS IS OF BULK AT MOST 1048576: true; the input reads as it did. -/
def swapOrdersUptoRow : OpenClaim := { program := "ytiebibpenhncdaagreatdoor", sum := "885fdcadc3385e1cd65671e51d897e2a2a449e0290a659e87fd046cdfdccba0f", func := "cabotage/cabotagelaw19.SwapOrders", spec := "swapOrders", inPlace := ["internal/reflectlite.ValueOf", "(internal/reflectlite.Value).Type", "(internal/reflectlite.Value).IsNil", "internal/reflectlite.TypeOf", "(internal/reflectlite.Value).Elem", "(internal/reflectlite.Value).Set"], unfollowed := true, recurses := true, named := ["errors.errorType"], loops := true, plainKeys := false, apart := false, laid := [("errors.errorType", laid_errors_errorType)], narrowed := true }
def SwapOrdersUptoSaid : Prop := swapOrdersUptoRow.holds Tryz.pinned (OpenSpec.upto swapOrdersSpec)

/-- 'cabotagelaw19.SwapBodies', WHERE WHAT IT READS IS OF BULK AT MOST 1048576: true; the input reads as it did. -/
def swapBodiesUptoRow : OpenClaim := { program := "ytiebibpenhncdaagreatdoor", sum := "885fdcadc3385e1cd65671e51d897e2a2a449e0290a659e87fd046cdfdccba0f", func := "cabotage/cabotagelaw19.SwapBodies", spec := "swapBodies", inPlace := ["internal/reflectlite.ValueOf", "(internal/reflectlite.Value).Type", "(internal/reflectlite.Value).IsNil", "internal/reflectlite.TypeOf", "(internal/reflectlite.Value).Elem", "(internal/reflectlite.Value).Set"], unfollowed := true, recurses := true, named := ["errors.errorType"], loops := true, plainKeys := false, apart := false, laid := [("errors.errorType", laid_errors_errorType)], narrowed := true }
def SwapBodiesUptoSaid : Prop := swapBodiesUptoRow.holds Tryz.pinned (OpenSpec.upto swapBodiesSpec)

/-- 'cabotagelaw19.SwapKeeps', WHERE WHAT IT READS IS OF BULK AT MOST 1048576: true; the input reads as it did. -/
def swapKeepsUptoRow : OpenClaim := { program := "ytiebibpenhncdaagreatdoor", sum := "885fdcadc3385e1cd65671e51d897e2a2a449e0290a659e87fd046cdfdccba0f", func := "cabotage/cabotagelaw19.SwapKeeps", spec := "swapKeeps", inPlace := ["internal/reflectlite.ValueOf", "(internal/reflectlite.Value).Type", "(internal/reflectlite.Value).IsNil", "internal/reflectlite.TypeOf", "(internal/reflectlite.Value).Elem", "(internal/reflectlite.Value).Set"], unfollowed := true, recurses := true, named := ["errors.errorType"], loops := true, plainKeys := false, apart := false, laid := [("errors.errorType", laid_errors_errorType)], narrowed := true }
def SwapKeepsUptoSaid : Prop := swapKeepsUptoRow.holds Tryz.pinned (OpenSpec.upto swapKeepsSpec)

/-- 'cabotagelaw19.SwapThens', WHERE WHAT IT READS IS OF BULK AT MOST 1048576: true; the input reads as it did. -/
def swapThensUptoRow : OpenClaim := { program := "ytiebibpenhncdaagreatdoor", sum := "885fdcadc3385e1cd65671e51d897e2a2a449e0290a659e87fd046cdfdccba0f", func := "cabotage/cabotagelaw19.SwapThens", spec := "swapThens", inPlace := ["internal/reflectlite.ValueOf", "(internal/reflectlite.Value).Type", "(internal/reflectlite.Value).IsNil", "internal/reflectlite.TypeOf", "(internal/reflectlite.Value).Elem", "(internal/reflectlite.Value).Set"], unfollowed := true, recurses := true, named := ["errors.errorType"], loops := true, plainKeys := false, apart := false, laid := [("errors.errorType", laid_errors_errorType)], narrowed := true }
def SwapThensUptoSaid : Prop := swapThensUptoRow.holds Tryz.pinned (OpenSpec.upto swapThensSpec)

/-- 'cabotagelaw19.SwapSelf', WHERE WHAT IT READS IS OF BULK AT MOST 1048576: true; the input reads as it did. -/
def swapSelfUptoRow : OpenClaim := { program := "ytiebibpenhncdaagreatdoor", sum := "885fdcadc3385e1cd65671e51d897e2a2a449e0290a659e87fd046cdfdccba0f", func := "cabotage/cabotagelaw19.SwapSelf", spec := "swapSelf", inPlace := ["internal/reflectlite.ValueOf", "(internal/reflectlite.Value).Type", "(internal/reflectlite.Value).IsNil", "internal/reflectlite.TypeOf", "(internal/reflectlite.Value).Elem", "(internal/reflectlite.Value).Set"], unfollowed := true, recurses := true, named := ["errors.errorType"], loops := true, plainKeys := false, apart := false, laid := [("errors.errorType", laid_errors_errorType)], narrowed := true }
def SwapSelfUptoSaid : Prop := swapSelfUptoRow.holds Tryz.pinned (OpenSpec.upto swapSelfSpec)

/-- 'cabotagelaw19.SwapRows', WHERE WHAT IT READS IS OF BULK AT MOST 1048576: true; the input reads as it did. -/
def swapRowsUptoRow : OpenClaim := { program := "ytiebibpenhncdaagreatdoor", sum := "885fdcadc3385e1cd65671e51d897e2a2a449e0290a659e87fd046cdfdccba0f", func := "cabotage/cabotagelaw19.SwapRows", spec := "swapRows", inPlace := ["internal/reflectlite.ValueOf", "(internal/reflectlite.Value).Type", "(internal/reflectlite.Value).IsNil", "internal/reflectlite.TypeOf", "(internal/reflectlite.Value).Elem", "(internal/reflectlite.Value).Set"], unfollowed := true, recurses := true, named := ["errors.errorType"], loops := true, plainKeys := false, apart := false, laid := [("errors.errorType", laid_errors_errorType)], narrowed := true }
def SwapRowsUptoSaid : Prop := swapRowsUptoRow.holds Tryz.pinned (OpenSpec.upto swapRowsSpec)

end Rows
end Go.Proofs.YtiebibpenhncdaaGreatDoor
