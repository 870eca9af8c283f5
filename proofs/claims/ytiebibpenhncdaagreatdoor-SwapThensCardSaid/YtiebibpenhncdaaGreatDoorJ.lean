/- The card. -/
import Derived.Test.YtiebibpenhncdaaGreatDoorI
set_option linter.unusedSimpArgs false
set_option linter.unusedVariables false
set_option linter.unusedSectionVars false
set_option maxRecDepth 100000
set_option maxHeartbeats 4000000
namespace Go.Proofs.YtiebibpenhncdaaGreatDoor
open Go.ChangeShapes Go.WideShapes Go.RowKit Go.Ideal Go.Ideal.S
theorem card_holds:Rows.SwapThensCardSaid:=
 Claim7.holds_tied_plain_at .later [] [.handle] true (true,"0d016ad76167210fb9ce189f62dcafa1a5656b03b8cd26583ce27a287f735983") true
  row_holds (fun _ h=>by cases h) (by kernel_rfl) (fun _ h=>by cases h) swapThens_row_tie rfl ⟨rfl,rfl⟩ (by kernel_rfl) rfl
  (fun f fn hf hfn=>by
    obtain rfl:f=8:=Option.some.inj ((show Tryz.prog.funcNamed "cabotage/cabotagelaw19.SwapThens" =some 8 by kernel_rfl).symm.trans hf) |>.symm
    obtain rfl:fn=Tryz.f8:=(Option.some.inj (Tryz.func8.symm.trans hfn)).symm
    exact⟨by kernel_rfl,fun j t ht=>by
     rw[Tryz.params8] at ht
     rcases j with _|_|_|_|_|j<;>simp at ht<;>subst ht<;>exact of_decide_eq_true (by kernel_rfl)⟩)
  (by kernel_rfl)
end Go.Proofs.YtiebibpenhncdaaGreatDoor
