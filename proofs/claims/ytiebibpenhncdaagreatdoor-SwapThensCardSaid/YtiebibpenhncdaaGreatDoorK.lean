/- Facts of the row. -/
import Derived.Test.YtiebibpenhncdaaGreatDoorCards
import Derived.LaidLaws
import Derived.RowKitTokens
import Derived.ChangeVars
import Derived.Stop.Joined
import Derived.LaidHandle
import Derived.SevenTiedAt
set_option autoImplicit false
set_option maxRecDepth 100000
set_option maxHeartbeats 4000000
set_option linter.unusedVariables false
namespace Go.Proofs.YtiebibpenhncdaaGreatDoor
open Go.ChangeShapes Go.WideShapes Go.RowKit
theorem rhB:joinedFacts Tryz.pinned.checked.prog 8 Tryz.f8 Rows.swapThensSpec Rows.swapThensRow=true:=by kernel_rfl
end Go.Proofs.YtiebibpenhncdaaGreatDoor
